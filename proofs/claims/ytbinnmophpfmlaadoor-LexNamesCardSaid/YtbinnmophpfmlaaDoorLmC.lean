/- Walks, printed by mill.py. -/
import Derived.Test.YtbinnmophpfmlaaDoorLmA
import Derived.Test.YtbinnmophpfmlaaDoorLmB
import Derived.Test.YtbinnmophpfmlaaDoorProg
import Derived.Shelf.Strconv.ParseIntPublic10
import Derived.KernelRfl
import Derived.Shelf.Unicode.ValidAny
set_option linter.unusedVariables false
set_option linter.unusedSimpArgs false

namespace Go.Proofs.YtbinnmophpfmlaaDoor
open Go.Sy
set_option maxRecDepth 4000
end Go.Proofs.YtbinnmophpfmlaaDoor


namespace Go.Proofs.YtbinnmophpfmlaaDoor
open Go.Sy
set_option maxRecDepth 4000
end Go.Proofs.YtbinnmophpfmlaaDoor


namespace Go.Proofs.YtbinnmophpfmlaaDoor
open Go.Sy
open Go.Shelf Go.RowKit
def parRen : Shelf.Ren := ⟨fun x => bif Nat.beq x 129 then 69 else bif Nat.beq x 171 then 61 else bif Nat.beq x 174 then 46 else bif Nat.beq x 205 then 60 else bif Nat.beq x 243 then 62 else bif Nat.beq x 245 then 50 else bif Nat.beq x 246 then 63 else bif Nat.beq x 247 then 49 else bif Nat.beq x 279 then 53 else bif Nat.beq x 280 then 54 else bif Nat.beq x 281 then 55 else bif Nat.beq x 282 then 56 else bif Nat.beq x 283 then 64 else bif Nat.beq x 284 then 65 else bif Nat.beq x 285 then 66 else bif Nat.beq x 286 then 67 else bif Nat.beq x 287 then 52 else bif Nat.beq x 316 then 59 else bif Nat.beq x 317 then 68 else bif Nat.beq x 318 then 70 else bif Nat.beq x 319 then 71 else bif Nat.beq x 320 then 72 else bif Nat.beq x 321 then 57 else bif Nat.beq x 322 then 58 else bif Nat.beq x 337 then 73 else bif Nat.beq x 338 then 74 else x, fun x => bif Nat.beq x 0 then 0 else bif Nat.beq x 2 then 2 else bif Nat.beq x 3 then 3 else bif Nat.beq x 4 then 4 else bif Nat.beq x 5 then 5 else bif Nat.beq x 9 then 9 else bif Nat.beq x 20 then 20 else bif Nat.beq x 21 then 21 else bif Nat.beq x 37 then 42 else bif Nat.beq x 46 then 33 else bif Nat.beq x 51 then 100 else bif Nat.beq x 53 then 32 else bif Nat.beq x 75 then 69 else bif Nat.beq x 80 then 107 else bif Nat.beq x 85 then 70 else bif Nat.beq x 127 then 87 else bif Nat.beq x 143 then 88 else bif Nat.beq x 145 then 90 else bif Nat.beq x 167 then 75 else bif Nat.beq x 168 then 78 else bif Nat.beq x 171 then 92 else bif Nat.beq x 173 then 95 else bif Nat.beq x 175 then 76 else bif Nat.beq x 210 then 84 else bif Nat.beq x 212 then 99 else bif Nat.beq x 213 then 101 else bif Nat.beq x 232 then 105 else bif Nat.beq x 233 then 106 else x, fun x => bif Nat.beq x 15 then 2 else bif Nat.beq x 16 then 3 else bif Nat.beq x 17 then 4 else bif Nat.beq x 18 then 5 else bif Nat.beq x 19 then 6 else x⟩
set_option maxRecDepth 100000 in
theorem parLays : LaysC.n174 Tryd.prog parRen := {
  mixed := by kernel_rfl
  f129 := Tryd.func69.trans (by kernel_rfl)
  f171 := Tryd.func61.trans (by kernel_rfl)
  f174 := Tryd.func46.trans (by kernel_rfl)
  f205 := Tryd.func60.trans (by kernel_rfl)
  f243 := Tryd.func62.trans (by kernel_rfl)
  f245 := Tryd.func50.trans (by kernel_rfl)
  f246 := Tryd.func63.trans (by kernel_rfl)
  f247 := Tryd.func49.trans (by kernel_rfl)
  f279 := Tryd.func53.trans (by kernel_rfl)
  f280 := Tryd.func54.trans (by kernel_rfl)
  f281 := Tryd.func55.trans (by kernel_rfl)
  f282 := Tryd.func56.trans (by kernel_rfl)
  f283 := Tryd.func64.trans (by kernel_rfl)
  f284 := Tryd.func65.trans (by kernel_rfl)
  f285 := Tryd.func66.trans (by kernel_rfl)
  f286 := Tryd.func67.trans (by kernel_rfl)
  f287 := Tryd.func52.trans (by kernel_rfl)
  f316 := Tryd.func59.trans (by kernel_rfl)
  f317 := Tryd.func68.trans (by kernel_rfl)
  f318 := Tryd.func70.trans (by kernel_rfl)
  f319 := Tryd.func71.trans (by kernel_rfl)
  f320 := Tryd.func72.trans (by kernel_rfl)
  f321 := Tryd.func57.trans (by kernel_rfl)
  f322 := Tryd.func58.trans (by kernel_rfl)
  f337 := Tryd.func73.trans (by kernel_rfl)
  f338 := Tryd.func74.trans (by kernel_rfl)
  t0 := Tryd.underlying0
  a0 := Tryd.isAgg0
  z0 := Tryd.sizeOf0
  v0 := Tryd.zeroValue0
  t2 := Tryd.underlying2
  a2 := Tryd.isAgg2
  z2 := Tryd.sizeOf2
  v2 := Tryd.zeroValue2
  t3 := Tryd.underlying3
  a3 := Tryd.isAgg3
  z3 := Tryd.sizeOf3
  v3 := Tryd.zeroValue3
  t4 := Tryd.underlying4
  a4 := Tryd.isAgg4
  z4 := Tryd.sizeOf4
  v4 := Tryd.zeroValue4
  t5 := Tryd.underlying5
  a5 := Tryd.isAgg5
  z5 := Tryd.sizeOf5
  v5 := Tryd.zeroValue5
  t9 := Tryd.underlying9
  a9 := Tryd.isAgg9
  z9 := Tryd.sizeOf9
  v9 := Tryd.zeroValue9
  t20 := Tryd.underlying20
  a20 := Tryd.isAgg20
  z20 := Tryd.sizeOf20
  v20 := Tryd.zeroValue20
  t21 := Tryd.underlying21
  a21 := Tryd.isAgg21
  z21 := Tryd.sizeOf21
  v21 := Tryd.zeroValue21
  t37 := Tryd.underlying42
  a37 := Tryd.isAgg42
  z37 := Tryd.sizeOf42
  v37 := Tryd.zeroValue42
  t46 := Tryd.underlying33
  a46 := Tryd.isAgg33
  z46 := Tryd.sizeOf33
  v46 := Tryd.zeroValue33
  t51 := Tryd.underlying100
  a51 := Tryd.isAgg100
  z51 := Tryd.sizeOf100
  v51 := Tryd.zeroValue100
  t53 := Tryd.underlying32
  a53 := Tryd.isAgg32
  z53 := Tryd.sizeOf32
  v53 := Tryd.zeroValue32
  t75 := Tryd.underlying69
  a75 := Tryd.isAgg69
  z75 := Tryd.sizeOf69
  v75 := Tryd.zeroValue69
  t85 := Tryd.underlying70
  a85 := Tryd.isAgg70
  z85 := Tryd.sizeOf70
  v85 := Tryd.zeroValue70
  t127 := Tryd.underlying87
  a127 := Tryd.isAgg87
  z127 := Tryd.sizeOf87
  v127 := Tryd.zeroValue87
  t143 := Tryd.underlying88
  a143 := Tryd.isAgg88
  z143 := Tryd.sizeOf88
  v143 := Tryd.zeroValue88
  t145 := Tryd.underlying90
  a145 := Tryd.isAgg90
  z145 := Tryd.sizeOf90
  v145 := Tryd.zeroValue90
  t167 := Tryd.underlying75
  a167 := Tryd.isAgg75
  z167 := Tryd.sizeOf75
  v167 := Tryd.zeroValue75
  t168 := Tryd.underlying78
  a168 := Tryd.isAgg78
  z168 := Tryd.sizeOf78
  v168 := Tryd.zeroValue78
  t171 := Tryd.underlying92
  a171 := Tryd.isAgg92
  z171 := Tryd.sizeOf92
  v171 := Tryd.zeroValue92
  t173 := Tryd.underlying95
  a173 := Tryd.isAgg95
  z173 := Tryd.sizeOf95
  v173 := Tryd.zeroValue95
  t175 := Tryd.underlying76
  a175 := Tryd.isAgg76
  z175 := Tryd.sizeOf76
  v175 := Tryd.zeroValue76
  t210 := Tryd.underlying84
  a210 := Tryd.isAgg84
  z210 := Tryd.sizeOf84
  v210 := Tryd.zeroValue84
  t212 := Tryd.underlying99
  a212 := Tryd.isAgg99
  z212 := Tryd.sizeOf99
  v212 := Tryd.zeroValue99
  t213 := Tryd.underlying101
  a213 := Tryd.isAgg101
  z213 := Tryd.sizeOf101
  t232 := Tryd.underlying105
  a232 := Tryd.isAgg105
  z232 := Tryd.sizeOf105
  v232 := Tryd.zeroValue105
  t233 := Tryd.underlying106
  a233 := Tryd.isAgg106
  z233 := Tryd.sizeOf106
  v233 := Tryd.zeroValue106
  g15 := by kernel_rfl
  g16 := by kernel_rfl
  g17 := by kernel_rfl
  g18 := by kernel_rfl
  g19 := by kernel_rfl
  t80 := Tryd.underlying107
  a80 := Tryd.isAgg107
  z80 := Tryd.sizeOf107
  v80 := Tryd.zeroValue107
  i0 := by kernel_rfl
  i2 := by kernel_rfl
  i3 := by kernel_rfl
  i4 := by kernel_rfl
  i5 := by kernel_rfl
  i9 := by kernel_rfl
  i20 := by kernel_rfl
  i21 := by kernel_rfl
  i37 := by kernel_rfl
  i46 := by kernel_rfl
  i51 := by kernel_rfl
  i53 := by kernel_rfl
  i75 := by kernel_rfl
  i80 := by kernel_rfl
  i85 := by kernel_rfl
  i127 := by kernel_rfl
  i143 := by kernel_rfl
  i145 := by kernel_rfl
  i167 := by kernel_rfl
  i168 := by kernel_rfl
  i171 := by kernel_rfl
  i173 := by kernel_rfl
  i175 := by kernel_rfl
  i210 := by kernel_rfl
  i212 := by kernel_rfl
  i232 := by kernel_rfl
  i233 := by kernel_rfl
  m15 := by kernel_rfl
  m16 := by kernel_rfl
  m17 := by kernel_rfl
  m18 := by kernel_rfl
  m19 := by kernel_rfl
  c0 := by kernel_rfl
  c2 := by kernel_rfl
  c3 := by kernel_rfl
  c4 := by kernel_rfl
  c5 := by kernel_rfl
  c9 := by kernel_rfl
  c20 := by kernel_rfl
  c21 := by kernel_rfl
  c37 := by kernel_rfl
  c46 := by kernel_rfl
  c51 := by kernel_rfl
  c53 := by kernel_rfl
  c75 := by kernel_rfl
  c80 := by kernel_rfl
  c85 := by kernel_rfl
  c127 := by kernel_rfl
  c143 := by kernel_rfl
  c145 := by kernel_rfl
  c167 := by kernel_rfl
  c168 := by kernel_rfl
  c171 := by kernel_rfl
  c173 := by kernel_rfl
  c175 := by kernel_rfl
  c210 := by kernel_rfl
  c212 := by kernel_rfl
  c213 := by kernel_rfl
  c232 := by kernel_rfl
  c233 := by kernel_rfl }
theorem below_step {S : Frz} {w w' : World} (hk : Below w.heap.size w w') (hs : S.sub w) : Step (keys []) S S w w' :=
  ⟨⟨hk.os, hk.tape, hk.output, hk.size, fun k hk' _ => hk.block k hk'⟩, Go.Sy.Grow.refl _ _ _, fun b cs hb => by
    obtain ⟨c, T, fr, h1, h2⟩ := hs b cs hb
    exact ⟨c, T, fr, by rw [hk.block b (Array.getElem?_eq_some_iff.1 h1).1]; exact h1, h2⟩⟩
theorem strconv_ParseInt_w : ∀ {a_s : Str} {a_base : Int} {a_bitSize : Int} {r : Int × Er}, strconv_ParseInt a_s a_base a_bitSize = some r → Ctr Tryd.prog 46 [isv (a_s), isv (a_base), isv (a_bitSize)] [] (fun R H => R = oneOf [isv (r.1), isv (r.2)] ∧ H = []) := by
  intro s b z r h
  unfold strconv_ParseInt at h
  cases hc : (decide (b = 10) && decide (z = 64) && Nat.ble s.b.length 281474976710656) with
  | false => rw [hc] at h; cases h
  | true =>
    rw [hc, cond_true] at h
    rw [Bool.and_eq_true, Bool.and_eq_true] at hc
    have hb := of_decide_eq_true hc.1.1
    have hz := of_decide_eq_true hc.1.2
    have hln := Nat.le_of_ble_eq_true hc.2
    subst hb; subst hz
    refine ⟨⟨_, Tryd.func46, rfl, by decide +kernel⟩, fun S w vs hT hs hv ho => ?_⟩
    match vs, hv with
    | [v1, v2, v3], ⟨hv1, hv2, hv3, _⟩ =>
      obtain ⟨rfl, hl⟩ := isv_str.1 hv1
      obtain ⟨rfl, _⟩ := isv_int.1 hv2
      obtain ⟨rfl, _⟩ := isv_int.1 hv3
      have hsz : s.ba.size ≤ 281474976710656 := by rw [Str.ba_size]; exact hln
      have ed : s.ba.data.toList = s.b := rfl
      have hE := (hT w hs).2
      have gs : Tryd.prog.globals.findIdx? (·.name == "strconv.ErrSyntax") = some (parRen.g 15) := by kernel_rfl
      have gr : Tryd.prog.globals.findIdx? (·.name == "strconv.ErrRange") = some (parRen.g 16) := by kernel_rfl
      cases hp : Lib.parseIntB 64 s.b with
      | ok v =>
        rw [hp] at h
        obtain rfl := Option.some.inj h
        refine (Any.strconv_ParseInt_10_at64_ok parLays s.ba (by omega) v hp w).mono fun e w' ⟨he, hw⟩ => ?_
        have hk : Below w.heap.size w w' := by
          rcases hw with rfl | ⟨t, rfl⟩
          · exact Below.refl _ _
          · exact Lib.bytesWorld_below _ _ _
        have hv64 : inI64 v := parseI64 hp
        exact ⟨_, S, _, [], ⟨rfl, rfl⟩, he, ⟨[.int .i64 v, .nilIface], rfl, isv_int.2 ⟨rfl, hv64⟩, ⟨rfl, rfl⟩, trivial⟩, below_step hk hs, owns_nil _ _ _ _⟩
      | range =>
        rw [hp] at h
        obtain rfl := Option.some.inj h
        obtain ⟨ev, e1, e2⟩ := hE _ (.inr gr)
        refine (Any.strconv_ParseInt_10_at64_range parLays s.ba hsz hp ev w e1 e2).mono fun e w' ⟨N, he, _, _, hk⟩ => ?_
        exact ⟨_, S, _, [], ⟨rfl, rfl⟩, he, ⟨[.int .i64 _, .iface _ _], rfl, isv_int.2 ⟨rfl, sat64 _⟩, ⟨rfl, _, _, rfl⟩, trivial⟩, below_step hk hs, owns_nil _ _ _ _⟩
      | _ =>
        rw [hp] at h
        obtain rfl := Option.some.inj h
        obtain ⟨ev, e1, e2⟩ := hE _ (.inl gs)
        refine (Any.strconv_ParseInt_10_at64_syntax parLays s.ba hsz hp ev w e1 e2).mono fun e w' ⟨N, he, _, _, hk⟩ => ?_
        exact ⟨_, S, _, [], ⟨rfl, rfl⟩, he, ⟨[.int .i64 0, .iface _ _], rfl, isv_int.2 ⟨rfl, in_mk (by omega) (by omega)⟩, ⟨rfl, _, _, rfl⟩, trivial⟩, below_step hk hs, owns_nil _ _ _ _⟩
end Go.Proofs.YtbinnmophpfmlaaDoor


namespace Go.Proofs.YtbinnmophpfmlaaDoor
open Go.Sy
def valRen : Shelf.Ren := ⟨fun x => bif Nat.beq x 196 then 18 else bif Nat.beq x 259 then 27 else x, fun x => bif Nat.beq x 0 then 0 else bif Nat.beq x 3 then 3 else bif Nat.beq x 4 then 4 else bif Nat.beq x 5 then 5 else bif Nat.beq x 9 then 9 else bif Nat.beq x 12 then 12 else bif Nat.beq x 46 then 33 else bif Nat.beq x 53 then 32 else bif Nat.beq x 119 then 59 else bif Nat.beq x 138 then 61 else bif Nat.beq x 139 then 62 else x, fun x => bif Nat.beq x 3 then 0 else bif Nat.beq x 4 then 1 else x⟩
set_option maxRecDepth 100000 in
theorem valLays : Lays.n196 Tryd.prog valRen := {
  mixed := by kernel_rfl
  f196 := Tryd.func18.trans (by kernel_rfl)
  f259 := Tryd.func27.trans (by kernel_rfl)
  t0 := Tryd.underlying0
  a0 := Tryd.isAgg0
  z0 := Tryd.sizeOf0
  v0 := Tryd.zeroValue0
  t3 := Tryd.underlying3
  a3 := Tryd.isAgg3
  z3 := Tryd.sizeOf3
  v3 := Tryd.zeroValue3
  t4 := Tryd.underlying4
  a4 := Tryd.isAgg4
  z4 := Tryd.sizeOf4
  v4 := Tryd.zeroValue4
  t5 := Tryd.underlying5
  a5 := Tryd.isAgg5
  z5 := Tryd.sizeOf5
  v5 := Tryd.zeroValue5
  t9 := Tryd.underlying9
  a9 := Tryd.isAgg9
  z9 := Tryd.sizeOf9
  v9 := Tryd.zeroValue9
  t12 := Tryd.underlying12
  a12 := Tryd.isAgg12
  z12 := Tryd.sizeOf12
  v12 := Tryd.zeroValue12
  t46 := Tryd.underlying33
  a46 := Tryd.isAgg33
  z46 := Tryd.sizeOf33
  v46 := Tryd.zeroValue33
  t53 := Tryd.underlying32
  a53 := Tryd.isAgg32
  z53 := Tryd.sizeOf32
  v53 := Tryd.zeroValue32
  t119 := Tryd.underlying59
  a119 := Tryd.isAgg59
  z119 := Tryd.sizeOf59
  t138 := Tryd.underlying61
  a138 := Tryd.isAgg61
  z138 := Tryd.sizeOf61
  v138 := Tryd.zeroValue61
  t139 := Tryd.underlying62
  a139 := Tryd.isAgg62
  z139 := Tryd.sizeOf62
  v139 := Tryd.zeroValue62
  g3 := by kernel_rfl
  g4 := by kernel_rfl }
end Go.Proofs.YtbinnmophpfmlaaDoor


namespace Go.Proofs.YtbinnmophpfmlaaDoor
open Go.Sy
set_option maxRecDepth 4000
theorem st9 : StrB Tryd.prog 9 = true := by kernel_rfl
theorem eq5 : EqOk Tryd.prog 5 UInt8 := EqOk.u8
theorem fd28_2 : FldB Tryd.prog 28 2 2 1 false = true := by kernel_rfl
theorem bu28 : BuildB Tryd.prog 28 = true := by kernel_rfl
theorem ze28 : ZeroOk Tryd.prog 28 ((GTok.mk (0 : Int) (Str.mk []) (0 : Int)) : GTok) := zero_agg (cs := [.int .i64 0, .string ⟨#[]⟩, .int .i64 0]) rfl (by kernel_rfl) (zr_pair zr_int (zr_pair zr_str zr_int))
theorem el23 : elB Tryd.prog 23 3 = true := by kernel_rfl
theorem ap23_23 : appB Tryd.prog 23 23 3 = true := by kernel_rfl
theorem ty28 : TyB Tryd.prog 28 3 true = true := by kernel_rfl
theorem moOrd : Tryd.prog.follows .mixedOrders = true := by kernel_rfl
theorem fd28_0 : FldB Tryd.prog 28 0 0 1 false = true := by kernel_rfl
theorem ty3 : TyB Tryd.prog 3 1 false = true := by kernel_rfl
theorem fd28_1 : FldB Tryd.prog 28 1 1 1 false = true := by kernel_rfl
theorem ty9 : TyB Tryd.prog 9 1 false = true := by kernel_rfl
theorem el36 : elB Tryd.prog 36 1 = true := by kernel_rfl
theorem sl36 : SlB Tryd.prog 36 1 false = true := by kernel_rfl
theorem eq9 : EqOk Tryd.prog 9 Str := EqOk.str
end Go.Proofs.YtbinnmophpfmlaaDoor


namespace Go.Proofs.YtbinnmophpfmlaaDoor
open Go.Sy
set_option maxRecDepth 4000
theorem fd46_0 : FldB Tryd.prog 46 0 0 1 false = true := by kernel_rfl
theorem bu46 : BuildB Tryd.prog 46 = true := by kernel_rfl
theorem ze46 : ZeroOk Tryd.prog 46 ((GLrd.mk (Str.mk []) (0 : Int)) : GLrd) := zero_agg (cs := [.string ⟨#[]⟩, .int .i64 0]) rfl (by kernel_rfl) (zr_pair zr_str zr_int)
theorem fd48_0 : FldB Tryd.prog 48 0 0 2 true = true := by kernel_rfl
theorem bu48 : BuildB Tryd.prog 48 = true := by kernel_rfl
theorem ze48 : ZeroOk Tryd.prog 48 ((GLex.mk (GLrd.mk (Str.mk []) (0 : Int))) : GLex) := zero_agg (cs := [.string ⟨#[]⟩, .int .i64 0]) rfl (by kernel_rfl) (zr_pair zr_str zr_int)
theorem fd46_1 : FldB Tryd.prog 46 1 1 1 false = true := by kernel_rfl
theorem if69 : Tryd.prog.underlying 69 = some (.interface (Tryd.prog.methodsAt 69)) := by kernel_rfl
theorem sl42 : SlB Tryd.prog 42 1 false = true := by kernel_rfl
theorem ty5 : TyB Tryd.prog 5 1 false = true := by kernel_rfl
theorem gl_first : Tryd.prog.globals.findIdx? (·.name == "unicode/utf8.first") = some 0 := by kernel_rfl
theorem ar59 : ArrB Tryd.prog 59 256 1 false = true := by kernel_rfl
theorem gl_acceptRanges : Tryd.prog.globals.findIdx? (·.name == "unicode/utf8.acceptRanges") = some 1 := by kernel_rfl
theorem ar62 : ArrB Tryd.prog 62 16 2 true = true := by kernel_rfl
theorem ty61 : TyB Tryd.prog 61 2 true = true := by kernel_rfl
theorem ze61 : ZeroOk Tryd.prog 61 (GAcc.zero : GAcc) := zero_agg (cs := [.int .u8 0, .int .u8 0]) rfl (by kernel_rfl) (zr_pair zr_u8 zr_u8)
theorem fd61_0 : FldB Tryd.prog 61 0 0 1 false = true := by kernel_rfl
theorem fd61_1 : FldB Tryd.prog 61 1 1 1 false = true := by kernel_rfl
theorem el42 : elB Tryd.prog 42 1 = true := by kernel_rfl
theorem ap42_42 : appB Tryd.prog 42 42 1 = true := by kernel_rfl
end Go.Proofs.YtbinnmophpfmlaaDoor


namespace Go.Proofs.YtbinnmophpfmlaaDoor
open Go.Sy
set_option maxRecDepth 4000
theorem sl23 : SlB Tryd.prog 23 3 true = true := by kernel_rfl
end Go.Proofs.YtbinnmophpfmlaaDoor


namespace Go.Proofs.YtbinnmophpfmlaaDoor
open Go.Sy
set_option maxRecDepth 4000
theorem eq28 : EqOk Tryd.prog 28 GTok := GTok.eqOk Tryd.underlying28 (by kernel_rfl) (by kernel_rfl) rfl rfl Tryd.underlying3 rfl rfl Tryd.underlying9 rfl rfl Tryd.underlying3
end Go.Proofs.YtbinnmophpfmlaaDoor


namespace Go.Proofs.YtbinnmophpfmlaaDoor
open Go.Sy
set_option maxRecDepth 4000
end Go.Proofs.YtbinnmophpfmlaaDoor


namespace Go.Proofs.YtbinnmophpfmlaaDoor
open Go.Sy
set_option maxRecDepth 4000
end Go.Proofs.YtbinnmophpfmlaaDoor


namespace Go.Proofs.YtbinnmophpfmlaaDoor
open Go.Sy
set_option maxRecDepth 4000
end Go.Proofs.YtbinnmophpfmlaaDoor


namespace Go.Proofs.YtbinnmophpfmlaaDoor
open Go.Sy
set_option maxRecDepth 4000
theorem sl35 : SlB Tryd.prog 35 1 false = true := by kernel_rfl
end Go.Proofs.YtbinnmophpfmlaaDoor


namespace Go.Proofs.YtbinnmophpfmlaaDoor
open Go.Sy
set_option maxRecDepth 4000
end Go.Proofs.YtbinnmophpfmlaaDoor


namespace Go.Proofs.YtbinnmophpfmlaaDoor
open Go.Sy
set_option maxRecDepth 4000
theorem lex_reader_peek_w : ∀ {a_r_ : GLex} {a_k : Int} {b_a_r_ : Nat} {r : UInt8 × GLex}, lex_reader_peek a_r_ a_k = some r → Ctr Tryd.prog 28 [ptrv b_a_r_ ((Fld.id GLex).comp GLex.f0), isv (a_k)] [boxE b_a_r_ (a_r_ : GLex)] (fun R H => R = oneOf [isv (r.1)] ∧ H = [boxE b_a_r_ (r.2)]) := by
 intro a_r_ a_k b_a_r_ r h
 unfold lex_reader_peek at h
 refine spec_intro Tryd.func28 rfl (by decide +kernel) (by rfl) fun w0 S0 hT => ?_
 refine wsr (oA rfl (rnf (w_seq (w_seq ?_))))
 refine w_pinN 0 .here rfl (fun o1 hn2 => w_regionD (.v 0 (.v 1 (.v 2 (.v 3 (.v 4 (.v 5 (.v 6 (.v 7 (.v 8 (.v 9 (.v 10 (.v 11 .nil)))))))))))) moOrd (by kernel_rfl) ?_)
 refine rvm rfl rfl (rd_v rfl (v_nilCheckP rfl) (rd_v rfl (v_fp rfl GLrd.f1 fd46_1) (rd_v rfl (v_lpC (R := isv (a_r_.reader.at_)) ty3 rfl (List.Mem.head _) (fun _ _ h => h)) (rvm rfl rfl ?_))))
 refine ck_inv h fun q3 h => rd_v rfl (v_add rfl rfl q3) (rvm rfl rfl (rd_v rfl (v_nilCheckP rfl) (rd_v rfl (v_fp rfl GLrd.f0 fd46_0) ?_)))
 refine rd_v rfl (v_lpC (R := isv (a_r_.reader.s)) ty9 rfl (List.Mem.head _) (fun _ _ h => h)) (rd_v rfl (v_lenS st9 rfl) (rd_v rfl (v_geq rfl rfl) (rd_nil (fin_unpinN 0 hn2 rfl ?_))))
 refine fin_nxt (w_condM h rfl (fun _ h => ?_) (fun _ h => ?_))
 ·
  refine wsr (oA rfl (rnf (w_ret (ret_nxt ?_))))
  refine ret_post (.tmp rfl .nil) (.cons .here .nil) ?_
  obtain rfl := Option.some.inj h
  exact ⟨rfl, rfl⟩
 ·
  refine wkf (w_seq (w_pinN 0 .here rfl (fun o4 hn5 => w_regionD (.v 0 (.v 1 (.v 2 (.v 3 (.v 4 (.v 5 (.v 6 (.v 7 (.v 8 (.v 9 (.v 10 (.v 11 .nil)))))))))))) moOrd (by kernel_rfl) ?_)))
  refine rvm rfl rfl (rd_v rfl (v_nilCheckP rfl) (rd_v rfl (v_fp rfl GLrd.f0 fd46_0) (rd_v rfl (v_lpC (R := isv (a_r_.reader.s)) ty9 rfl (List.Mem.head _) (fun _ _ h => h)) (rvm rfl rfl ?_))))
  refine rd_v rfl (v_nilCheckP rfl) (rd_v rfl (v_fp rfl GLrd.f1 fd46_1) (rd_v rfl (v_lpC (R := isv (a_r_.reader.at_)) ty3 rfl (List.Mem.head _) (fun _ _ h => h)) (rvm rfl rfl (ck_inv h fun q6 h => ?_))))
  refine rd_v rfl (v_add rfl rfl q6) (cal_inv h fun y7 hy7 h => rd_v rfl (v_idxS y7 st9 rfl rfl hy7) (rd_v rfl (v_assign rfl) (rd_nil ?_)))
  refine fin_unpinN 0 hn5 rfl (fin_nxt (w_ret (ret_post (.tmp rfl .nil) (.cons .here .nil) ?_)))
  obtain rfl := Option.some.inj h
  exact ⟨rfl, rfl⟩


theorem internal_stringslite_HasPrefix_w : ∀ {a_s : Str} {a_prefix_ : Str} {r : Bool}, internal_stringslite_HasPrefix a_s a_prefix_ = some r → Ctr Tryd.prog 48 [isv (a_s), isv (a_prefix_)] [] (fun R H => R = oneOf [isv (r)] ∧ H = []) := by
 intro a_s a_prefix_ r h
 unfold internal_stringslite_HasPrefix at h
 refine spec_intro Tryd.func48 rfl (by decide +kernel) (by rfl) fun w0 S0 hT => ?_
 refine wsr (oA rfl (rnf (wsr (oM rfl ?_))))
 refine oV (v_lenS st9 rfl) (oM rfl (oV (v_lenS st9 rfl) (oV (v_geq rfl rfl) (oM rfl ?_))))
 refine rl_j (jb 17) je .nil h 7 rfl (fun q1 g1 h => ?_) (fun J2 h hJ2 => ?_)
 ·
  refine oA rfl (rnf (w_ret (ret_post (.tmp rfl .nil) .nil ?_)))
  obtain rfl := Option.some.inj h
  exact ⟨rfl, rfl⟩
 ·
  refine rl_condM (j := 10) h rfl (fun g3 h => ?_) (fun g3 h => ?_)
  ·
   refine oK 10 rfl rfl rfl g3 (v_move rfl) (oK 10 rfl rfl rfl g3 (v_move rfl) (oK 10 rfl rfl rfl g3 (v_lenS st9 rfl) (asd_inv h fun q4 h => oK 10 rfl rfl rfl g3 (v_slS st9 rfl (.inl ⟨rfl, rfl⟩) (.inr ⟨_, rfl, rfl⟩) q4.1 q4.2.1 q4.2.2) ?_)))
   exact oK 10 rfl rfl rfl g3 (v_move rfl) (oK 10 rfl rfl rfl g3 (v_eqA eq9 rfl rfl) (oV (v_pick_t rfl g3 rfl) (hJ2 _ () h _ (ji 7 17 rfl rfl rfl))))
  ·
   refine oP 10 rfl rfl g3 (oP 10 rfl rfl g3 (oP 10 rfl rfl g3 (oP 10 rfl rfl g3 (oP 10 rfl rfl g3 ?_))))
   exact oP 10 rfl rfl g3 (oV (v_pick_f rfl g3 rfl) (hJ2 _ () h _ (ji 7 17 rfl rfl rfl)))


theorem strings_HasPrefix_w : ∀ {a_s : Str} {a_prefix_ : Str} {r : Bool}, strings_HasPrefix a_s a_prefix_ = some r → Ctr Tryd.prog 45 [isv (a_s), isv (a_prefix_)] [] (fun R H => R = oneOf [isv (r)] ∧ H = []) := by
 intro a_s a_prefix_ r h
 unfold strings_HasPrefix at h
 refine spec_intro Tryd.func45 rfl (by decide +kernel) (by rfl) fun w0 S0 hT => ?_
 refine wsr (oA rfl (rnf (wsr (oM rfl ?_))))
 refine oM rfl (cal_inv h fun y1 hy1 h => oT (t_call (internal_stringslite_HasPrefix_w hy1) hT (.same rfl (.same rfl .nil)) .nil (fun R H' hR => ?_)))
 obtain ⟨rfl, rfl⟩ := hR
 refine oA rfl (rnf (w_ret (ret_post (.tmp rfl .nil) .nil ?_)))
 obtain rfl := Option.some.inj h
 exact ⟨rfl, rfl⟩


theorem lex_reader_ahead_w : ∀ {a_r_ : GLex} {a_t : Str} {b_a_r_ : Nat} {r : Bool × GLex}, lex_reader_ahead a_r_ a_t = some r → Ctr Tryd.prog 29 [ptrv b_a_r_ ((Fld.id GLex).comp GLex.f0), isv (a_t)] [boxE b_a_r_ (a_r_ : GLex)] (fun R H => R = oneOf [isv (r.1)] ∧ H = [boxE b_a_r_ (r.2)]) := by
 intro a_r_ a_t b_a_r_ r h
 unfold lex_reader_ahead at h
 refine spec_intro Tryd.func29 rfl (by decide +kernel) (by rfl) fun w0 S0 hT => ?_
 refine wsr (oA rfl (rnf (w_seq (w_pinN 0 .here rfl (fun o1 hn2 => ?_)))))
 refine w_regionD (.v 0 (.v 1 (.v 2 (.v 3 (.v 4 (.v 5 (.v 6 (.v 7 (.v 8 (.v 9 (.t 10 (.v 11 .nil)))))))))))) moOrd (by kernel_rfl) ?_
 refine rvm rfl rfl (rd_v rfl (v_nilCheckP rfl) (rd_v rfl (v_fp rfl GLrd.f0 fd46_0) (rd_v rfl (v_lpC (R := isv (a_r_.reader.s)) ty9 rfl (List.Mem.head _) (fun _ _ h => h)) (rvm rfl rfl ?_))))
 refine rd_v rfl (v_nilCheckP rfl) (rd_v rfl (v_fp rfl GLrd.f1 fd46_1) (rd_v rfl (v_lpC (R := isv (a_r_.reader.at_)) ty3 rfl (List.Mem.head _) (fun _ _ h => h)) (asd_inv h fun q3 h => rd_v rfl (v_slS st9 rfl (.inr ⟨_, rfl, rfl⟩) (.inl ⟨rfl, rfl⟩) q3.1 q3.2.1 q3.2.2) ?_)))
 refine rvm rfl rfl (cal_inv h fun y4 hy4 h => rd_t rfl rfl (t_call (strings_HasPrefix_w hy4) hT (.same rfl (.same rfl .nil)) .nil (fun R H' hR => ?_)))
 obtain ⟨rfl, rfl⟩ := hR
 refine rd_v rfl (v_assign rfl) (rd_nil (fin_unpinN 0 hn2 rfl (fin_nxt (w_ret ?_))))
 refine ret_post (.tmp rfl .nil) (.cons .here .nil) ?_
 obtain rfl := Option.some.inj h
 exact ⟨rfl, rfl⟩


theorem lex_reader_skip_w : ∀ {a_r_ : GLex} {b_a_r_ : Nat} {r : GLex}, lex_reader_skip a_r_ = some r → Ctr Tryd.prog 19 [ptrv b_a_r_ ((Fld.id GLex).comp GLex.f0)] [boxE b_a_r_ (a_r_ : GLex)] (fun R H => R = oneOf [] ∧ H = [boxE b_a_r_ (r)]) := by
 intro a_r_ b_a_r_ r h
 unfold lex_reader_skip at h
 refine spec_intro Tryd.func19 rfl (by decide +kernel) (by rfl) fun w0 S0 hT => ?_
 refine w_block (w_lp (ι := GLex) (γ := Unit) (fun q1 g1 => [(0, ptrv b_a_r_ ((Fld.id GLex).comp GLex.f0))]) (fun q1 g1 => [boxE b_a_r_ (q1 : GLex)]) h () (mod_cons (j := 0) rfl (fun _ _ h => h) mod_nil) (.cons .here .nil) (fun L2 q1 g1 Q123 h hL2 eL2 rL2 => w_seq (w_seq (w_pinN 0 .here rfl (fun o63 hn64 => ?_)))))
 refine w_regionD (.v 0 (.v 1 (.v 2 (.v 3 (.v 4 (.v 5 (.v 6 (.v 7 (.v 8 (.v 9 .nil)))))))))) moOrd (by kernel_rfl) ?_
 refine rvm rfl rfl (rd_v rfl (v_nilCheckP rfl) (rd_v rfl (v_fp rfl GLrd.f1 fd46_1) (rd_v rfl (v_lpC (R := isv (q1.reader.at_)) ty3 rfl (List.Mem.head _) (fun _ _ h => h)) (rvm rfl rfl ?_))))
 refine rd_v rfl (v_nilCheckP rfl) (rd_v rfl (v_fp rfl GLrd.f0 fd46_0) (rd_v rfl (v_lpC (R := isv (q1.reader.s)) ty9 rfl (List.Mem.head _) (fun _ _ h => h)) (rd_v rfl (v_lenS st9 rfl) (rd_v rfl (v_lss rfl rfl) ?_))))
 refine rd_nil (fin_unpinN 0 hn64 rfl (fin_nxt (w_condM h rfl (fun _ h => ?_) (fun _ h => ?_))))
 ·
  refine wkf (w_block (wsr (oM rfl (cal_inv h fun y65 hy65 h => ?_))))
  refine oT (t_call (lex_reader_peek_w hy65) hT (.same rfl (.same rfl .nil)) (.cons .here .nil) (fun R H' hR => ?_))
  obtain ⟨rfl, rfl⟩ := hR
  refine oA rfl (rnf (w_block (wsr (oM rfl ?_))))
  refine oV (v_eqA eq5 rfl rfl) (oM rfl (rl_j (jb 21) je .nil h 3 rfl (fun q66 g66 h => ?_) (fun J67 h hJ67 => ?_)))
  ·
   refine oM rfl (rl_j (jb 25) je .nil h 3 rfl (fun q69 g69 h => ?_) (fun J70 h hJ70 => ?_))
   ·
    refine oM rfl (rl_j (jb 29) je .nil h 3 rfl (fun q72 g72 h => ?_) (fun J73 h hJ73 => ?_))
    ·
     refine oA rfl (rnf (w_condM h rfl (fun _ h => ?_) (fun _ h => ?_)))
     ·
      refine w_region (oM rfl (oV (v_nilCheck rfl) (oV (v_fa rfl GLrd.f1 fd46_1) (oT (t_loadC (R := isv (y65.2.reader.at_)) ty3 rfl .here (fun _ _ h => h) ?_)))))
      refine ck_inv h fun q75 h => oV (v_add rfl rfl q75) (oV (v_nilCheck rfl) (oV (v_fa rfl GLrd.f1 fd46_1) (oT (t_storeC (y' := ({ y65.2 with reader := { y65.2.reader with at_ := (y65.2.reader.at_ + (1 : Int)) } } : GLex)) ty3 rfl rfl (fun _ _ h => h) .here rfl ?_))))
      exact rl_nil (fin_block (fin_block (hL2 _ () h _ (join_imp 32 rfl rfl (mod_cons (j := 0) rfl (fun _ _ h => h) mod_nil) (.cons .here .nil)))))
     ·
      refine wsr (oM rfl (cal_inv h fun y76 hy76 h => oT (t_call (lex_reader_ahead_w hy76) hT (.same rfl (.same rfl .nil)) (.cons .here .nil) (fun R H' hR => ?_))))
      obtain ⟨rfl, rfl⟩ := hR
      refine oA rfl (rnf (w_condM h rfl (fun _ h => ?_) (fun _ h => ?_)))
      ·
       refine wsr (oM rfl (oV (v_nilCheck rfl) (oV (v_fa rfl GLrd.f1 fd46_1) (oT (t_loadC (R := isv (y76.2.reader.at_)) ty3 rfl .here (fun _ _ h => h) ?_)))))
       refine ck_inv h fun q77 h => oV (v_add rfl rfl q77) (oV (v_nilCheck rfl) (oV (v_fa rfl GLrd.f1 fd46_1) (oT (t_storeC (y' := ({ y76.2 with reader := { y76.2.reader with at_ := (y76.2.reader.at_ + (2 : Int)) } } : GLex)) ty3 rfl rfl (fun _ _ h => h) .here rfl ?_))))
       refine rnf (w_seq (w_block (w_lp (ι := GLex) (γ := Unit) (fun q78 g78 => []) (fun q78 g78 => [boxE b_a_r_ (q78 : GLex)]) h () mod_nil (.cons .here .nil) (fun L79 q78 g78 Q122 h hL79 eL79 rL79 => w_seq ?_))))
       refine w_seq (w_J (ι := Bool × GLex) (γ := Unit) (fun q101 g101 => [(66, isv (q101.1))]) (fun q101 g101 => [boxE b_a_r_ (q101.2 : GLex)]) (.cons .here .nil) h (fun q101 g101 h => ?_) (fun J102 h hJ102 => ?_))
       ·
        refine w_condM h rfl (fun _ h => ?_) (fun _ h => ?_)
        ·
         refine wkf (w_block (w_region (oM rfl (oV (v_nilCheck rfl) ?_))))
         refine oV (v_fa rfl GLrd.f1 fd46_1) (oT (t_loadC (R := isv (q101.2.reader.at_)) ty3 rfl .here (fun _ _ h => h) (ck_inv h fun q119 h => oV (v_add rfl rfl q119) (oV (v_nilCheck rfl) ?_))))
         exact oV (v_fa rfl GLrd.f1 fd46_1) (oT (t_storeC (y' := ({ q101.2 with reader := { q101.2.reader with at_ := (q101.2.reader.at_ + (1 : Int)) } } : GLex)) ty3 rfl rfl (fun _ _ h => h) .here rfl (rl_nil (fin_block (hL79 _ () h _ (join_imp 8 rfl rfl mod_nil (.cons .here .nil)))))))
        ·
         refine w_exit (exi_nxt (eL79 _ _ (exi_block (fin_nxt ?_))))
         refine wsr (oM rfl (cal_inv h fun y120 hy120 h => oT (t_call (lex_reader_ahead_w hy120) hT (.same rfl (.same rfl .nil)) (.cons .here .nil) (fun R H' hR => ?_))))
         obtain ⟨rfl, rfl⟩ := hR
         refine rnf (w_condM h rfl (fun _ h => ?_) (fun _ h => ?_))
         ·
          refine w_region (oM rfl (oV (v_nilCheck rfl) (oV (v_fa rfl GLrd.f1 fd46_1) (oT (t_loadC (R := isv (y120.2.reader.at_)) ty3 rfl .here (fun _ _ h => h) ?_)))))
          refine ck_inv h fun q121 h => oV (v_add rfl rfl q121) (oV (v_nilCheck rfl) (oV (v_fa rfl GLrd.f1 fd46_1) (oT (t_storeC (y' := ({ y120.2 with reader := { y120.2.reader with at_ := (y120.2.reader.at_ + (2 : Int)) } } : GLex)) ty3 rfl rfl (fun _ _ h => h) .here rfl ?_))))
          exact rl_nil (fin_block (fin_block (hL2 _ () h _ (join_imp 45 rfl rfl (mod_cons (j := 0) rfl (fun _ _ h => h) mod_nil) (.cons .here .nil)))))
         ·
          exact w_skip (fin_block (fin_block (hL2 _ () h _ (join_imp 38 rfl rfl (mod_cons (j := 0) rfl (fun _ _ h => h) mod_nil) (.cons .here .nil)))))
       ·
        refine w_regionD (.v 0 (.v 1 (.v 2 (.v 4 (.v 5 (.v 6 (.alt 3 (.t 7 (.v 8 (.v 9 (.v 10 (.v 11 (.t 12 (.v 13 (.v 14 (.v 15 (.v 16 (.t 17 (.v 18 (.v 19 .nil))))))))))))) (.t 7 (.v 8 (.t 3 (.v 9 (.v 10 (.v 11 (.t 12 (.v 13 (.v 14 (.v 15 (.v 16 (.t 17 (.v 18 (.v 19 .nil))))))))))))))))))))) moOrd (by kernel_rfl) ?_
        refine rvm rfl rfl (rd_v rfl (v_nilCheck rfl) (rd_v rfl (v_fa rfl GLrd.f1 fd46_1) (rvm rfl rfl (rd_v rfl (v_nilCheck rfl) ?_))))
        refine rd_v rfl (v_fa rfl GLrd.f0 fd46_0) (rd_two ?_ ?_)
        ·
         refine rd_t rfl rfl (t_loadC (R := isv (q78.reader.at_)) ty3 rfl .here (fun _ _ h => h) (rd_t rfl rfl (t_loadC (R := isv (q78.reader.s)) ty9 rfl .here (fun _ _ h => h) (rd_v rfl (v_lenS st9 rfl) (rd_v rfl (v_lss rfl rfl) (rvm rfl rfl ?_))))))
         refine rd_j (ι := Bool × GLex) (γ := Unit) (fun q103 g103 => [(61, isv (q103.1))]) (fun q103 g103 => [boxE b_a_r_ (q103.2 : GLex)]) (.cons .here .nil) h 4 rfl (fun q103 g103 h => ?_) (fun J104 h hJ104 => ?_)
         ·
          refine rvm rfl rfl (rd_j (ι := Bool × GLex) (γ := Unit) (fun q107 g107 => [(66, isv (q107.1))]) (fun q107 g107 => [boxE b_a_r_ (q107.2 : GLex)]) (.cons .here .nil) h 4 rfl (fun q107 g107 h => ?_) (fun J108 h hJ108 => ?_))
          ·
           exact rd_nil (hJ102 _ () h _ (join_imp 14 rfl rfl (mod_cons (j := 66) rfl (fun _ _ h => h) mod_nil) (.cons .here .nil)))
          ·
           refine rd_condM (j := 62) h rfl (fun g109 h => ?_) (fun g109 h => ?_)
           ·
            refine rvt 62 rfl rfl rfl g109 (v_move rfl) (cal_inv h fun y110 hy110 h => rd_tt rfl rfl rfl (dj := 62) rfl g109 (t_call (lex_reader_ahead_w hy110) hT (.same rfl (.same rfl .nil)) (.cons .here .nil) (fun R H' hR => ?_)))
            obtain ⟨rfl, rfl⟩ := hR
            exact rvt 62 rfl rfl rfl g109 (v_not rfl) (rd_v rfl (v_pick_t rfl g109 rfl) (hJ108 _ () h _ (join_imp 4 rfl rfl (mod_cons (j := 66) rfl (fun _ _ h => h) mod_nil) (.cons .here .nil))))
           ·
            exact rpv 62 rfl rfl rfl g109 (rd_passT rfl rfl (dj := 62) rfl g109 (rpv 62 rfl rfl rfl g109 (rd_v rfl (v_pick_f rfl g109 rfl) (hJ108 _ () h _ (join_imp 4 rfl rfl (mod_cons (j := 66) rfl (fun _ _ h => h) mod_nil) (.cons .here .nil))))))
         ·
          refine rd_condM (j := 57) h rfl (fun g105 h => ?_) (fun g105 h => ?_)
          ·
           refine rvt 57 rfl rfl rfl g105 (v_move rfl) (cal_inv h fun y106 hy106 h => rd_tt rfl rfl rfl (dj := 57) rfl g105 (t_call (lex_reader_peek_w hy106) hT (.same rfl (.same rfl .nil)) (.cons .here .nil) (fun R H' hR => ?_)))
           obtain ⟨rfl, rfl⟩ := hR
           exact rvt 57 rfl rfl rfl g105 (v_neA eq5 rfl rfl) (rd_v rfl (v_pick_t rfl g105 rfl) (hJ104 _ () h _ (join_imp 4 rfl rfl (mod_cons (j := 61) rfl (fun _ _ h => h) mod_nil) (.cons .here .nil))))
          ·
           exact rpv 57 rfl rfl rfl g105 (rd_passT rfl rfl (dj := 57) rfl g105 (rpv 57 rfl rfl rfl g105 (rd_v rfl (v_pick_f rfl g105 rfl) (hJ104 _ () h _ (join_imp 4 rfl rfl (mod_cons (j := 61) rfl (fun _ _ h => h) mod_nil) (.cons .here .nil))))))
        ·
         refine rd_t rfl rfl (t_loadC (R := isv (q78.reader.s)) ty9 rfl .here (fun _ _ h => h) (rd_v rfl (v_lenS st9 rfl) (rd_t rfl rfl (t_loadC (R := isv (q78.reader.at_)) ty3 rfl .here (fun _ _ h => h) (rd_v rfl (v_lss rfl rfl) (rvm rfl rfl ?_))))))
         refine rd_j (ι := Bool × GLex) (γ := Unit) (fun q111 g111 => [(61, isv (q111.1))]) (fun q111 g111 => [boxE b_a_r_ (q111.2 : GLex)]) (.cons .here .nil) h 4 rfl (fun q111 g111 h => ?_) (fun J112 h hJ112 => ?_)
         ·
          refine rvm rfl rfl (rd_j (ι := Bool × GLex) (γ := Unit) (fun q115 g115 => [(66, isv (q115.1))]) (fun q115 g115 => [boxE b_a_r_ (q115.2 : GLex)]) (.cons .here .nil) h 4 rfl (fun q115 g115 h => ?_) (fun J116 h hJ116 => ?_))
          ·
           exact rd_nil (hJ102 _ () h _ (join_imp 14 rfl rfl (mod_cons (j := 66) rfl (fun _ _ h => h) mod_nil) (.cons .here .nil)))
          ·
           refine rd_condM (j := 62) h rfl (fun g117 h => ?_) (fun g117 h => ?_)
           ·
            refine rvt 62 rfl rfl rfl g117 (v_move rfl) (cal_inv h fun y118 hy118 h => rd_tt rfl rfl rfl (dj := 62) rfl g117 (t_call (lex_reader_ahead_w hy118) hT (.same rfl (.same rfl .nil)) (.cons .here .nil) (fun R H' hR => ?_)))
            obtain ⟨rfl, rfl⟩ := hR
            exact rvt 62 rfl rfl rfl g117 (v_not rfl) (rd_v rfl (v_pick_t rfl g117 rfl) (hJ116 _ () h _ (join_imp 4 rfl rfl (mod_cons (j := 66) rfl (fun _ _ h => h) mod_nil) (.cons .here .nil))))
           ·
            exact rpv 62 rfl rfl rfl g117 (rd_passT rfl rfl (dj := 62) rfl g117 (rpv 62 rfl rfl rfl g117 (rd_v rfl (v_pick_f rfl g117 rfl) (hJ116 _ () h _ (join_imp 4 rfl rfl (mod_cons (j := 66) rfl (fun _ _ h => h) mod_nil) (.cons .here .nil))))))
         ·
          refine rd_condM (j := 57) h rfl (fun g113 h => ?_) (fun g113 h => ?_)
          ·
           refine rvt 57 rfl rfl rfl g113 (v_move rfl) (cal_inv h fun y114 hy114 h => rd_tt rfl rfl rfl (dj := 57) rfl g113 (t_call (lex_reader_peek_w hy114) hT (.same rfl (.same rfl .nil)) (.cons .here .nil) (fun R H' hR => ?_)))
           obtain ⟨rfl, rfl⟩ := hR
           exact rvt 57 rfl rfl rfl g113 (v_neA eq5 rfl rfl) (rd_v rfl (v_pick_t rfl g113 rfl) (hJ112 _ () h _ (join_imp 4 rfl rfl (mod_cons (j := 61) rfl (fun _ _ h => h) mod_nil) (.cons .here .nil))))
          ·
           exact rpv 57 rfl rfl rfl g113 (rd_passT rfl rfl (dj := 57) rfl g113 (rpv 57 rfl rfl rfl g113 (rd_v rfl (v_pick_f rfl g113 rfl) (hJ112 _ () h _ (join_imp 4 rfl rfl (mod_cons (j := 61) rfl (fun _ _ h => h) mod_nil) (.cons .here .nil))))))
      ·
       refine w_ret (ret_block (ret_block (rL2 _ (ret_block ?_))))
       refine ret_post .nil (.cons .here .nil) ?_
       obtain rfl := Option.some.inj h
       exact ⟨rfl, rfl⟩
    ·
     refine rl_condM (j := 26) h rfl (fun g74 h => ?_) (fun g74 h => ?_)
     ·
      exact oP 26 rfl rfl g74 (oP 26 rfl rfl g74 (oV (v_pick_t rfl g74 rfl) (hJ73 _ () h _ (join_imp 3 rfl rfl (mod_cons (j := 29) rfl (fun _ _ h => h) mod_nil) (.cons .here .nil)))))
     ·
      exact oK 26 rfl rfl rfl g74 (v_move rfl) (oK 26 rfl rfl rfl g74 (v_eqA eq5 rfl rfl) (oV (v_pick_f rfl g74 rfl) (hJ73 _ () h _ (join_imp 3 rfl rfl (mod_cons (j := 29) rfl (fun _ _ h => h) mod_nil) (.cons .here .nil)))))
   ·
    refine rl_condM (j := 22) h rfl (fun g71 h => ?_) (fun g71 h => ?_)
    ·
     exact oP 22 rfl rfl g71 (oP 22 rfl rfl g71 (oV (v_pick_t rfl g71 rfl) (hJ70 _ () h _ (join_imp 3 rfl rfl (mod_cons (j := 25) rfl (fun _ _ h => h) mod_nil) (.cons .here .nil)))))
    ·
     exact oK 22 rfl rfl rfl g71 (v_move rfl) (oK 22 rfl rfl rfl g71 (v_eqA eq5 rfl rfl) (oV (v_pick_f rfl g71 rfl) (hJ70 _ () h _ (join_imp 3 rfl rfl (mod_cons (j := 25) rfl (fun _ _ h => h) mod_nil) (.cons .here .nil)))))
  ·
   refine rl_condM (j := 18) h rfl (fun g68 h => ?_) (fun g68 h => ?_)
   ·
    exact oP 18 rfl rfl g68 (oP 18 rfl rfl g68 (oV (v_pick_t rfl g68 rfl) (hJ67 _ () h _ (join_imp 3 rfl rfl (mod_cons (j := 21) rfl (fun _ _ h => h) mod_nil) (.cons .here .nil)))))
   ·
    exact oK 18 rfl rfl rfl g68 (v_move rfl) (oK 18 rfl rfl rfl g68 (v_eqA eq5 rfl rfl) (oV (v_pick_f rfl g68 rfl) (hJ67 _ () h _ (join_imp 3 rfl rfl (mod_cons (j := 21) rfl (fun _ _ h => h) mod_nil) (.cons .here .nil)))))
 ·
  refine w_exit (exi_nxt (eL2 _ _ (exi_block (fin_post .nil (.cons .here .nil) ?_))))
  obtain rfl := Option.some.inj h
  exact ⟨rfl, rfl⟩


theorem lex_letter_w : ∀ {a_c : UInt8} {r : Bool}, lex_letter a_c = some r → Ctr Tryd.prog 30 [isv (a_c)] [] (fun R H => R = oneOf [isv (r)] ∧ H = []) := by
 intro a_c r h
 unfold lex_letter at h
 refine spec_intro Tryd.func30 rfl (by decide +kernel) (by rfl) fun w0 S0 hT => ?_
 refine wsr (oA rfl (rnf (wsr (oM rfl ?_))))
 refine oV (v_geq8 rfl rfl) (oM rfl (rl_j (jb 8) je .nil h 3 rfl (fun q1 g1 h => ?_) (fun J2 h hJ2 => ?_)))
 ·
  refine oM rfl (rl_j (jb 16) je .nil h 7 rfl (fun q4 g4 h => ?_) (fun J5 h hJ5 => ?_))
  ·
   refine oA rfl (rnf (w_ret (ret_post (.tmp rfl .nil) .nil ?_)))
   obtain rfl := Option.some.inj h
   exact ⟨rfl, rfl⟩
  ·
   refine rl_condM (j := 9) h rfl (fun g6 h => ?_) (fun g6 h => ?_)
   ·
    refine oP 9 rfl rfl g6 (oP 9 rfl rfl g6 (oP 9 rfl rfl g6 (op_passU rfl (dj := 12) rfl (op_passU rfl (dj := 12) rfl ?_))))
    exact oP 9 rfl rfl g6 (oV (v_pick_t rfl g6 rfl) (hJ5 _ () h _ (ji 7 16 rfl rfl rfl)))
   ·
    refine oK 9 rfl rfl rfl g6 (v_move rfl) (oK 9 rfl rfl rfl g6 (v_geq8 rfl rfl) (oK 9 rfl rfl rfl g6 (v_move rfl) (rl_j (jb 15) je .nil h 3 rfl (fun q7 g7 h => ?_) (fun J8 h hJ8 => ?_))))
    ·
     exact oV (v_pick_f rfl g6 rfl) (hJ5 _ () h _ (ji 5 16 rfl rfl rfl))
    ·
     refine rl_condM (j := 12) h rfl (fun g9 h => ?_) (fun g9 h => ?_)
     ·
      exact oK 12 rfl rfl rfl g9 (v_move rfl) (oK 12 rfl rfl rfl g9 (v_leq8 rfl rfl) (oK 9 rfl rfl rfl g6 (v_pick_t rfl g9 rfl) (hJ8 _ () h _ (ji 3 15 rfl rfl rfl))))
     ·
      exact oP 12 rfl rfl g9 (oP 12 rfl rfl g9 (oK 9 rfl rfl rfl g6 (v_pick_f rfl g9 rfl) (hJ8 _ () h _ (ji 3 15 rfl rfl rfl))))
 ·
  refine rl_condM (j := 5) h rfl (fun g3 h => ?_) (fun g3 h => ?_)
  ·
   exact oK 5 rfl rfl rfl g3 (v_move rfl) (oK 5 rfl rfl rfl g3 (v_leq8 rfl rfl) (oV (v_pick_t rfl g3 rfl) (hJ2 _ () h _ (ji 3 8 rfl rfl rfl))))
  ·
   exact oP 5 rfl rfl g3 (oP 5 rfl rfl g3 (oV (v_pick_f rfl g3 rfl) (hJ2 _ () h _ (ji 3 8 rfl rfl rfl))))


theorem lex_digit_w : ∀ {a_c : UInt8} {r : Bool}, lex_digit a_c = some r → Ctr Tryd.prog 32 [isv (a_c)] [] (fun R H => R = oneOf [isv (r)] ∧ H = []) := by
 intro a_c r h
 unfold lex_digit at h
 refine spec_intro Tryd.func32 rfl (by decide +kernel) (by rfl) fun w0 S0 hT => ?_
 refine wsr (oA rfl (rnf (wsr (oM rfl ?_))))
 refine oV (v_geq8 rfl rfl) (oM rfl (rl_j (jb 8) je .nil h 3 rfl (fun q1 g1 h => ?_) (fun J2 h hJ2 => ?_)))
 ·
  refine oA rfl (rnf (w_ret (ret_post (.tmp rfl .nil) .nil ?_)))
  obtain rfl := Option.some.inj h
  exact ⟨rfl, rfl⟩
 ·
  refine rl_condM (j := 5) h rfl (fun g3 h => ?_) (fun g3 h => ?_)
  ·
   exact oK 5 rfl rfl rfl g3 (v_move rfl) (oK 5 rfl rfl rfl g3 (v_leq8 rfl rfl) (oV (v_pick_t rfl g3 rfl) (hJ2 _ () h _ (ji 3 8 rfl rfl rfl))))
  ·
   exact oP 5 rfl rfl g3 (oP 5 rfl rfl g3 (oV (v_pick_f rfl g3 rfl) (hJ2 _ () h _ (ji 3 8 rfl rfl rfl))))


theorem lex_Word_w : ∀ {a_s : Str} {r : Bool}, lex_Word a_s = some r → Ctr Tryd.prog 15 [isv (a_s)] [] (fun R H => R = oneOf [isv (r)] ∧ H = []) := by
 intro a_s r h
 unfold lex_Word at h
 refine spec_intro Tryd.func15 rfl (by decide +kernel) (by rfl) fun w0 S0 hT => ?_
 refine wsr (oA rfl (rnf (w_seq (wsr ?_))))
 refine oM rfl (rnf (w_block (w_seq (wsr ?_))))
 refine oV (v_eqA eq9 rfl rfl) (oA rfl (rnf (w_J (jb 4) je .nil h (fun q1 g1 h => ?_) (fun J2 h hJ2 => ?_))))
 ·
  refine w_condM h rfl (fun _ h => ?_) (fun _ h => ?_)
  ·
   refine wsr (oA rfl (rnf (w_ret (ret_block ?_))))
   refine ret_nxt (ret_post (.tmp rfl .nil) .nil ?_)
   obtain rfl := Option.some.inj h
   exact ⟨rfl, rfl⟩
  ·
   refine w_skip (fin_block (fin_nxt (wsr (oA rfl ?_))))
   refine rnf (w_ret (ret_post (.tmp rfl .nil) .nil ?_))
   obtain rfl := Option.some.inj h
   exact ⟨rfl, rfl⟩
 ·
  refine w_condM h rfl (fun _ h => ?_) (fun _ h => ?_)
  ·
   exact w_skip (hJ2 _ () h _ (ji 0 4 rfl rfl rfl))
  ·
   refine wsr (oV (v_eqA eq9 rfl rfl) (oA rfl (rnf (w_condM h rfl (fun _ h => ?_) (fun _ h => ?_)))))
   ·
    exact w_skip (hJ2 _ () h _ (ji 2 4 rfl rfl rfl))
   ·
    refine wsr (oV (v_eqA eq9 rfl rfl) (oA rfl (rnf (w_condM h rfl (fun _ h => ?_) (fun _ h => ?_)))))
    ·
     exact w_skip (hJ2 _ () h _ (ji 4 4 rfl rfl rfl))
    ·
     refine wsr (oV (v_eqA eq9 rfl rfl) (oA rfl (rnf (w_condM h rfl (fun _ h => ?_) (fun _ h => ?_)))))
     ·
      exact w_skip (hJ2 _ () h _ (ji 6 4 rfl rfl rfl))
     ·
      refine wsr (oV (v_eqA eq9 rfl rfl) (oA rfl (rnf (w_condM h rfl (fun _ h => ?_) (fun _ h => ?_)))))
      ·
       exact w_skip (hJ2 _ () h _ (ji 8 4 rfl rfl rfl))
      ·
       refine wsr (oV (v_eqA eq9 rfl rfl) (oA rfl (rnf (w_condM h rfl (fun _ h => ?_) (fun _ h => ?_)))))
       ·
        exact w_skip (hJ2 _ () h _ (ji 10 4 rfl rfl rfl))
       ·
        refine wsr (oV (v_eqA eq9 rfl rfl) (oA rfl (rnf (w_condM h rfl (fun _ h => ?_) (fun _ h => ?_)))))
        ·
         exact w_skip (hJ2 _ () h _ (ji 12 4 rfl rfl rfl))
        ·
         refine wsr (oV (v_eqA eq9 rfl rfl) (oA rfl (rnf (w_condM h rfl (fun _ h => ?_) (fun _ h => ?_)))))
         ·
          exact w_skip (hJ2 _ () h _ (ji 14 4 rfl rfl rfl))
         ·
          refine wsr (oV (v_eqA eq9 rfl rfl) (oA rfl (rnf (w_condM h rfl (fun _ h => ?_) (fun _ h => ?_)))))
          ·
           exact w_skip (hJ2 _ () h _ (ji 16 4 rfl rfl rfl))
          ·
           refine wsr (oV (v_eqA eq9 rfl rfl) (oA rfl (rnf (w_condM h rfl (fun _ h => ?_) (fun _ h => ?_)))))
           ·
            exact w_skip (hJ2 _ () h _ (ji 18 4 rfl rfl rfl))
           ·
            refine wsr (oV (v_eqA eq9 rfl rfl) (oA rfl (rnf (w_condM h rfl (fun _ h => ?_) (fun _ h => ?_)))))
            ·
             exact w_skip (hJ2 _ () h _ (ji 20 4 rfl rfl rfl))
            ·
             refine wsr (oV (v_eqA eq9 rfl rfl) (oA rfl (rnf (w_condM h rfl (fun _ h => ?_) (fun _ h => ?_)))))
             ·
              exact w_skip (hJ2 _ () h _ (ji 22 4 rfl rfl rfl))
             ·
              refine wsr (oV (v_eqA eq9 rfl rfl) (oA rfl (rnf (w_condM h rfl (fun _ h => ?_) (fun _ h => ?_)))))
              ·
               exact w_skip (hJ2 _ () h _ (ji 24 4 rfl rfl rfl))
              ·
               refine wsr (oV (v_eqA eq9 rfl rfl) (oA rfl (rnf (w_condM h rfl (fun _ h => ?_) (fun _ h => ?_)))))
               ·
                exact w_skip (hJ2 _ () h _ (ji 26 4 rfl rfl rfl))
               ·
                refine wsr (oV (v_eqA eq9 rfl rfl) (oA rfl (rnf (w_condM h rfl (fun _ h => ?_) (fun _ h => ?_)))))
                ·
                 exact w_skip (hJ2 _ () h _ (ji 28 4 rfl rfl rfl))
                ·
                 refine wsr (oV (v_eqA eq9 rfl rfl) (oA rfl (rnf (w_condM h rfl (fun _ h => ?_) (fun _ h => ?_)))))
                 ·
                  exact w_skip (hJ2 _ () h _ (ji 30 4 rfl rfl rfl))
                 ·
                  refine wsr (oV (v_eqA eq9 rfl rfl) (oA rfl (rnf (w_condM h rfl (fun _ h => ?_) (fun _ h => ?_)))))
                  ·
                   exact w_skip (hJ2 _ () h _ (ji 32 4 rfl rfl rfl))
                  ·
                   refine wsr (oV (v_eqA eq9 rfl rfl) (oA rfl (rnf (w_condM h rfl (fun _ h => ?_) (fun _ h => ?_)))))
                   ·
                    exact w_skip (hJ2 _ () h _ (ji 34 4 rfl rfl rfl))
                   ·
                    refine wsr (oV (v_eqA eq9 rfl rfl) (oA rfl (rnf (w_condM h rfl (fun _ h => ?_) (fun _ h => ?_)))))
                    ·
                     exact w_skip (hJ2 _ () h _ (ji 36 4 rfl rfl rfl))
                    ·
                     refine wsr (oV (v_eqA eq9 rfl rfl) (oA rfl (rnf (w_condM h rfl (fun _ h => ?_) (fun _ h => ?_)))))
                     ·
                      exact w_skip (hJ2 _ () h _ (ji 38 4 rfl rfl rfl))
                     ·
                      refine wsr (oV (v_eqA eq9 rfl rfl) (oA rfl (rnf (w_condM h rfl (fun _ h => ?_) (fun _ h => ?_)))))
                      ·
                       exact w_skip (hJ2 _ () h _ (ji 40 4 rfl rfl rfl))
                      ·
                       refine wsr (oV (v_eqA eq9 rfl rfl) (oA rfl (rnf (w_condM h rfl (fun _ h => ?_) (fun _ h => ?_)))))
                       ·
                        exact w_skip (hJ2 _ () h _ (ji 42 4 rfl rfl rfl))
                       ·
                        refine wsr (oV (v_eqA eq9 rfl rfl) (oA rfl (rnf (w_condM h rfl (fun _ h => ?_) (fun _ h => ?_)))))
                        ·
                         exact w_skip (hJ2 _ () h _ (ji 44 4 rfl rfl rfl))
                        ·
                         refine wsr (oV (v_eqA eq9 rfl rfl) (oA rfl (rnf (w_condM h rfl (fun _ h => ?_) (fun _ h => ?_)))))
                         ·
                          exact w_skip (hJ2 _ () h _ (ji 46 4 rfl rfl rfl))
                         ·
                          exact w_region (oV (v_eqA eq9 rfl rfl) (oA rfl (rl_nil (hJ2 _ () h _ (ji 48 4 rfl rfl rfl)))))


theorem lex_lexer_name_w : ∀ {a_l : GLex} {b_a_l : Nat} {r : Int × Str × GLex}, lex_lexer_name a_l = some r → Ctr Tryd.prog 31 [ptrv b_a_l (Fld.id GLex)] [boxE b_a_l (a_l : GLex)] (fun R H => R = oneOf [isv (r.1), isv (r.2.1)] ∧ H = [boxE b_a_l (r.2.2)]) := by
 intro a_l b_a_l r h
 unfold lex_lexer_name at h
 refine spec_intro Tryd.func31 rfl (by decide +kernel) (by rfl) fun w0 S0 hT => ?_
 refine wsr (oA rfl (oA rfl (rnf (wsr ?_))))
 refine oM rfl (oV (v_nilCheck rfl) (oV (v_fa rfl GLex.f0 fd48_0) (oV (v_fa rfl GLrd.f1 fd46_1) (oT (t_loadC (R := isv (a_l.reader.at_)) ty3 rfl .here (fun _ _ h => h) ?_)))))
 refine oA rfl (rnf (w_seq (wsr (oM rfl ?_))))
 refine oV (v_nilCheck rfl) (oV (v_fa rfl GLex.f0 fd48_0) (cal_inv h fun y1 hy1 h => oT (t_call (lex_reader_peek_w hy1) hT (.same rfl (.same rfl .nil)) (.cons .here .nil) (fun R H' hR => ?_))))
 obtain ⟨rfl, rfl⟩ := hR
 refine oA rfl (rnf (w_block (w_lp (ι := UInt8 × GLex) (γ := Unit) (fun q2 g2 => [(5, isv (q2.1))]) (fun q2 g2 => [boxE b_a_l (q2.2 : GLex)]) h () (mod_cons (j := 5) rfl (fun _ _ h => h) mod_nil) (.cons .here .nil) (fun L3 q2 g2 Q52 h hL3 eL3 rL3 => w_seq ?_))))
 refine wsr (oM rfl (cal_inv h fun y28 hy28 h => oT (t_call (lex_letter_w hy28) hT (.same rfl .nil) .nil (fun R H' hR => ?_))))
 obtain ⟨rfl, rfl⟩ := hR
 refine oM rfl (rl_j (jb 21) je .nil h 3 rfl (fun q29 g29 h => ?_) (fun J30 h hJ30 => ?_))
 ·
  refine oM rfl (rl_j (ι := Bool × GLex) (γ := Unit) (fun q33 g33 => [(32, isv (q33.1))]) (fun q33 g33 => [boxE b_a_l (q33.2 : GLex)]) (.cons .here .nil) h 10 rfl (fun q33 g33 h => ?_) (fun J34 h hJ34 => ?_))
  ·
   refine rnf (w_condM h rfl (fun _ h => ?_) (fun _ h => ?_))
   ·
    refine wkf (w_seq (w_block (w_region (oM rfl ?_))))
    refine oV (v_nilCheck rfl) (oV (v_fa rfl GLex.f0 fd48_0) (oV (v_fa rfl GLrd.f1 fd46_1) (oT (t_loadC (R := isv (q33.2.reader.at_)) ty3 rfl .here (fun _ _ h => h) (ck_inv h fun q40 h => ?_)))))
    refine oV (v_add rfl rfl q40) (oV (v_nilCheck rfl) (oV (v_fa rfl GLex.f0 fd48_0) (oV (v_fa rfl GLrd.f1 fd46_1) (oT (t_storeC (y' := ({ q33.2 with reader := { q33.2.reader with at_ := (q33.2.reader.at_ + (1 : Int)) } } : GLex)) ty3 rfl rfl (fun _ _ h => h) .here rfl ?_)))))
    refine rl_nil (fin_block (fin_nxt (w_region (oM rfl ?_))))
    refine oV (v_nilCheck rfl) (oV (v_fa rfl GLex.f0 fd48_0) (cal_inv h fun y41 hy41 h => oT (t_call (lex_reader_peek_w hy41) hT (.same rfl (.same rfl .nil)) (.cons .here .nil) (fun R H' hR => ?_))))
    obtain ⟨rfl, rfl⟩ := hR
    exact oA rfl (rl_nil (hL3 _ () h _ (join_imp 21 rfl rfl (mod_cons (j := 5) rfl (fun _ _ h => h) mod_nil) (.cons .here .nil))))
   ·
    refine w_exit (exi_nxt (eL3 _ _ (exi_block (fin_nxt ?_))))
    refine w_seq (w_pinN 0 .here rfl (fun o42 hn43 => w_regionD (.v 0 (.v 1 (.v 2 (.v 3 (.v 4 (.v 5 (.v 6 (.v 7 (.v 8 (.v 9 (.v 10 (.v 11 (.v 12 .nil))))))))))))) moOrd (by kernel_rfl) ?_))
    refine rvm rfl rfl (rd_v rfl (v_nilCheckP rfl) (rd_v rfl (v_fp rfl GLex.f0 fd48_0) (rd_v rfl (v_fp rfl GLrd.f0 fd46_0) (rd_v rfl (v_lpC (R := isv (q33.2.reader.s)) ty9 rfl (List.Mem.head _) (fun _ _ h => h)) ?_))))
    refine rvm rfl rfl (rvm rfl rfl (rd_v rfl (v_nilCheckP rfl) (rd_v rfl (v_fp rfl GLex.f0 fd48_0) (rd_v rfl (v_fp rfl GLrd.f1 fd46_1) ?_))))
    refine rd_v rfl (v_lpC (R := isv (q33.2.reader.at_)) ty3 rfl (List.Mem.head _) (fun _ _ h => h)) (asd_inv h fun q44 h => rd_v rfl (v_slS st9 rfl (.inr ⟨_, rfl, rfl⟩) (.inr ⟨_, rfl, rfl⟩) q44.1 q44.2.1 q44.2.2) (rd_v rfl (v_assign rfl) (rd_nil ?_)))
    refine fin_unpinN 0 hn43 rfl (fin_nxt (w_seq (w_block (wsr ?_))))
    refine oM rfl (oV (v_lenS st9 rfl) (oV (v_gtr rfl rfl) (oM rfl (rl_j (jb 69) je .nil h 7 rfl (fun q45 g45 h => ?_) (fun J46 h hJ46 => ?_)))))
    ·
     refine oA rfl (rnf (w_condM h rfl (fun _ h => ?_) (fun _ h => ?_)))
     ·
      refine wsr (oA rfl (oA rfl (rnf (w_ret ?_))))
      refine ret_block (ret_nxt (ret_post (.tmp rfl (.tmp rfl .nil)) (.cons .here .nil) ?_))
      obtain rfl := Option.some.inj h
      exact ⟨rfl, rfl⟩
     ·
      refine wsr (oM rfl (cal_inv h fun y50 hy50 h => oT (t_call (lex_Word_w hy50) hT (.same rfl .nil) .nil (fun R H' hR => ?_))))
      obtain ⟨rfl, rfl⟩ := hR
      refine oA rfl (rnf (w_condM h rfl (fun _ h => ?_) (fun _ h => ?_)))
      ·
       refine wsr (oM rfl (oA rfl (oA rfl (rnf ?_))))
       refine w_ret (ret_block (ret_nxt (ret_post (.tmp rfl (.tmp rfl .nil)) (.cons .here .nil) ?_)))
       obtain rfl := Option.some.inj h
       exact ⟨rfl, rfl⟩
      ·
       refine wsr (oM rfl (cal_inv h fun y51 hy51 h => oV (v_idxS y51 st9 rfl rfl hy51) (oV (v_leq8 rfl rfl) ?_)))
       refine oA rfl (rnf (w_condM h rfl (fun _ h => ?_) (fun _ h => ?_)))
       ·
        refine wsr (oM rfl (oA rfl (oA rfl (rnf ?_))))
        refine w_ret (ret_block (ret_nxt (ret_post (.tmp rfl (.tmp rfl .nil)) (.cons .here .nil) ?_)))
        obtain rfl := Option.some.inj h
        exact ⟨rfl, rfl⟩
       ·
        refine w_skip (fin_block (fin_nxt (wsr (oM rfl ?_))))
        refine oA rfl (oA rfl (rnf (w_ret (ret_post (.tmp rfl (.tmp rfl .nil)) (.cons .here .nil) ?_))))
        obtain rfl := Option.some.inj h
        exact ⟨rfl, rfl⟩
    ·
     refine rl_condM (j := 62) h rfl (fun g47 h => ?_) (fun g47 h => ?_)
     ·
      refine oP 62 rfl rfl g47 (oP 62 rfl rfl g47 (oP 62 rfl rfl g47 (oP 62 rfl rfl g47 (oP 62 rfl rfl g47 ?_))))
      exact oP 62 rfl rfl g47 (oV (v_pick_t rfl g47 rfl) (hJ46 _ () h _ (join_imp 7 rfl rfl (mod_cons (j := 69) rfl (fun _ _ h => h) mod_nil) (.cons .here .nil))))
     ·
      refine oK 62 rfl rfl rfl g47 (v_move rfl) (oK 62 rfl rfl rfl g47 (v_move rfl) (oK 62 rfl rfl rfl g47 (v_lenS st9 rfl) (ck_inv h fun q48 h => oK 62 rfl rfl rfl g47 (v_sub rfl rfl q48) ?_)))
      exact cal_inv h fun y49 hy49 h => oK 62 rfl rfl rfl g47 (v_idxS y49 st9 rfl rfl hy49) (oK 62 rfl rfl rfl g47 (v_eqA eq5 rfl rfl) (oV (v_pick_f rfl g47 rfl) (hJ46 _ () h _ (join_imp 7 rfl rfl (mod_cons (j := 69) rfl (fun _ _ h => h) mod_nil) (.cons .here .nil)))))
  ·
   refine rl_condM (j := 22) h rfl (fun g35 h => ?_) (fun g35 h => ?_)
   ·
    refine oP 22 rfl rfl g35 (oP 22 rfl rfl g35 (oP 22 rfl rfl g35 (op_passU rfl (dj := 25) rfl (op_passU rfl (dj := 25) rfl ?_))))
    refine op_passU rfl (dj := 25) rfl (op_passU rfl (dj := 25) rfl (op_passU rfl (dj := 25) rfl (oP 22 rfl rfl g35 (oV (v_pick_t rfl g35 rfl) ?_))))
    exact hJ34 _ () h _ (join_imp 10 rfl rfl (mod_cons (j := 32) rfl (fun _ _ h => h) mod_nil) (.cons .here .nil))
   ·
    refine oK 22 rfl rfl rfl g35 (v_move rfl) (oK 22 rfl rfl rfl g35 (v_eqA eq5 rfl rfl) (oK 22 rfl rfl rfl g35 (v_move rfl) (rl_j (ι := Bool × GLex) (γ := Unit) (fun q36 g36 => [(31, isv (q36.1))]) (fun q36 g36 => [boxE b_a_l (q36.2 : GLex)]) (.cons .here .nil) h 6 rfl (fun q36 g36 h => ?_) (fun J37 h hJ37 => ?_))))
    ·
     exact oV (v_pick_f rfl g35 rfl) (hJ34 _ () h _ (join_imp 5 rfl rfl (mod_cons (j := 32) rfl (fun _ _ h => h) mod_nil) (.cons .here .nil)))
    ·
     refine rl_condM (j := 25) h rfl (fun g38 h => ?_) (fun g38 h => ?_)
     ·
      refine oK 25 rfl rfl rfl g38 (v_move rfl) (oK 25 rfl rfl rfl g38 (v_nilCheck rfl) (oK 25 rfl rfl rfl g38 (v_fa rfl GLex.f0 fd48_0) (cal_inv h fun y39 hy39 h => op_take rfl rfl (dj := 25) rfl g38 (t_call (lex_reader_peek_w hy39) hT (.same rfl (.same rfl .nil)) (.cons .here .nil) (fun R H' hR => ?_)))))
      obtain ⟨rfl, rfl⟩ := hR
      exact oK 25 rfl rfl rfl g38 (v_neA eq5 rfl rfl) (oK 22 rfl rfl rfl g35 (v_pick_t rfl g38 rfl) (hJ37 _ () h _ (join_imp 6 rfl rfl (mod_cons (j := 31) rfl (fun _ _ h => h) mod_nil) (.cons .here .nil))))
     ·
      refine oP 25 rfl rfl g38 (oP 25 rfl rfl g38 (oP 25 rfl rfl g38 (oP 25 rfl rfl g38 (oP 25 rfl rfl g38 ?_))))
      exact oK 22 rfl rfl rfl g35 (v_pick_f rfl g38 rfl) (hJ37 _ () h _ (join_imp 6 rfl rfl (mod_cons (j := 31) rfl (fun _ _ h => h) mod_nil) (.cons .here .nil)))
 ·
  refine rl_condM (j := 18) h rfl (fun g31 h => ?_) (fun g31 h => ?_)
  ·
   exact oP 18 rfl rfl g31 (oP 18 rfl rfl g31 (oV (v_pick_t rfl g31 rfl) (hJ30 _ () h _ (join_imp 3 rfl rfl (mod_cons (j := 21) rfl (fun _ _ h => h) mod_nil) (.cons .here .nil)))))
  ·
   refine oK 18 rfl rfl rfl g31 (v_move rfl) (cal_inv h fun y32 hy32 h => op_take rfl rfl (dj := 18) rfl g31 (t_call (lex_digit_w hy32) hT (.same rfl .nil) .nil (fun R H' hR => ?_)))
   obtain ⟨rfl, rfl⟩ := hR
   exact oV (v_pick_f rfl g31 rfl) (hJ30 _ () h _ (join_imp 3 rfl rfl (mod_cons (j := 21) rfl (fun _ _ h => h) mod_nil) (.cons .here .nil)))


theorem lex_lexer_number_w : ∀ {a_l : GLex} {b_a_l : Nat} {r : Int × Str × GLex}, lex_lexer_number a_l = some r → Ctr Tryd.prog 33 [ptrv b_a_l (Fld.id GLex)] [boxE b_a_l (a_l : GLex)] (fun R H => R = oneOf [isv (r.1), isv (r.2.1)] ∧ H = [boxE b_a_l (r.2.2)]) := by
 intro a_l b_a_l r h
 unfold lex_lexer_number at h
 refine spec_intro Tryd.func33 rfl (by decide +kernel) (by rfl) fun w0 S0 hT => ?_
 refine wsr (oA rfl (oA rfl (rnf (wsr ?_))))
 refine oM rfl (oV (v_nilCheck rfl) (oV (v_fa rfl GLex.f0 fd48_0) (oV (v_fa rfl GLrd.f1 fd46_1) (oT (t_loadC (R := isv (a_l.reader.at_)) ty3 rfl .here (fun _ _ h => h) ?_)))))
 refine oA rfl (rnf (w_seq (wsr (oM rfl ?_))))
 refine oV (v_nilCheck rfl) (oV (v_fa rfl GLex.f0 fd48_0) (cal_inv h fun y1 hy1 h => oT (t_call (lex_reader_peek_w hy1) hT (.same rfl (.same rfl .nil)) (.cons .here .nil) (fun R H' hR => ?_))))
 obtain ⟨rfl, rfl⟩ := hR
 refine oV (v_eqA eq5 rfl rfl) (rnf (w_J (ι := GLex) (γ := Unit) (fun q2 g2 => []) (fun q2 g2 => [boxE b_a_l (q2 : GLex)]) (.cons .here .nil) h (fun q2 g2 h => ?_) (fun J3 h hJ3 => ?_)))
 ·
  refine wsr (oM rfl (oV (v_nilCheck rfl) (oV (v_fa rfl GLex.f0 fd48_0) (oV (v_fa rfl GLrd.f1 fd46_1) ?_))))
  refine oT (t_loadC (R := isv (q2.reader.at_)) ty3 rfl .here (fun _ _ h => h) (oA rfl (rnf (w_seq (w_block ?_)))))
  refine w_lp (ι := GLex) (γ := Unit) (fun q5 g5 => []) (fun q5 g5 => [boxE b_a_l (q5 : GLex)]) h () mod_nil (.cons .here .nil) (fun L6 q5 g5 Q53 h hL6 eL6 rL6 => w_seq (wsr (oM rfl (oV (v_nilCheck rfl) ?_))))
  refine oV (v_fa rfl GLex.f0 fd48_0) (cal_inv h fun y30 hy30 h => oT (t_call (lex_reader_peek_w hy30) hT (.same rfl (.same rfl .nil)) (.cons .here .nil) (fun R H' hR => ?_)))
  obtain ⟨rfl, rfl⟩ := hR
  refine cal_inv h fun y31 hy31 h => oT (t_call (lex_digit_w hy31) hT (.same rfl .nil) .nil (fun R H' hR => ?_))
  obtain ⟨rfl, rfl⟩ := hR
  refine rnf (w_condM h rfl (fun _ h => ?_) (fun _ h => ?_))
  ·
   refine wkf (w_block (w_region (oM rfl (oV (v_nilCheck rfl) ?_))))
   refine oV (v_fa rfl GLex.f0 fd48_0) (oV (v_fa rfl GLrd.f1 fd46_1) (oT (t_loadC (R := isv (y30.2.reader.at_)) ty3 rfl .here (fun _ _ h => h) (ck_inv h fun q32 h => oV (v_add rfl rfl q32) ?_))))
   refine oV (v_nilCheck rfl) (oV (v_fa rfl GLex.f0 fd48_0) (oV (v_fa rfl GLrd.f1 fd46_1) (oT (t_storeC (y' := ({ y30.2 with reader := { y30.2.reader with at_ := (y30.2.reader.at_ + (1 : Int)) } } : GLex)) ty3 rfl rfl (fun _ _ h => h) .here rfl (rl_nil ?_)))))
   exact fin_block (hL6 _ () h _ (join_imp 14 rfl rfl mod_nil (.cons .here .nil)))
  ·
   refine w_exit (exi_nxt (eL6 _ _ (exi_block (fin_nxt ?_))))
   refine w_seq (w_pinN 0 .here rfl (fun o33 hn34 => w_regionD (.v 0 (.v 1 (.v 2 (.v 3 (.v 4 (.v 5 (.v 6 (.v 7 (.v 8 (.v 9 (.v 10 (.v 11 (.v 12 (.v 13 (.v 14 (.v 15 (.v 16 (.v 17 (.v 18 (.v 19 (.v 20 (.v 21 .nil)))))))))))))))))))))) moOrd (by kernel_rfl) ?_))
   refine rvm rfl rfl (rd_v rfl (v_nilCheckP rfl) (rd_v rfl (v_fp rfl GLex.f0 fd48_0) (rd_v rfl (v_fp rfl GLrd.f0 fd46_0) (rd_v rfl (v_lpC (R := isv (y30.2.reader.s)) ty9 rfl (List.Mem.head _) (fun _ _ h => h)) ?_))))
   refine rvm rfl rfl (rvm rfl rfl (rd_v rfl (v_nilCheckP rfl) (rd_v rfl (v_fp rfl GLex.f0 fd48_0) (rd_v rfl (v_fp rfl GLrd.f1 fd46_1) ?_))))
   refine rd_v rfl (v_lpC (R := isv (y30.2.reader.at_)) ty3 rfl (List.Mem.head _) (fun _ _ h => h)) (asd_inv h fun q35 h => rd_v rfl (v_slS st9 rfl (.inr ⟨_, rfl, rfl⟩) (.inr ⟨_, rfl, rfl⟩) q35.1 q35.2.1 q35.2.2) (rvm rfl rfl (rd_v rfl (v_nilCheckP rfl) ?_)))
   refine rd_v rfl (v_fp rfl GLex.f0 fd48_0) (rd_v rfl (v_fp rfl GLrd.f0 fd46_0) (rd_v rfl (v_lpC (R := isv (y30.2.reader.s)) ty9 rfl (List.Mem.head _) (fun _ _ h => h)) (rvm rfl rfl (cal_inv h fun y36 hy36 h => ?_))))
   refine rd_v rfl (v_idxS y36 st9 rfl rfl hy36) (rd_v rfl (v_eqA eq5 rfl rfl) (rd_v rfl (v_assign rfl) (rd_v rfl (v_assign rfl) (rd_nil ?_))))
   refine fin_unpinN 0 hn34 rfl (fin_nxt (w_seq (wsr (oM rfl ?_))))
   refine cal_inv h fun y37 hy37 h => oT (t_call (strconv_ParseInt_w hy37) hT (.same rfl (.same rfl (.same rfl .nil))) .nil (fun R H' hR => ?_))
   obtain ⟨rfl, rfl⟩ := hR
   refine oM rfl (oV (v_extract rfl rfl) (oV (v_extract rfl rfl) (oA rfl (oA rfl ?_))))
   refine rnf (wsr (oM rfl (oV (v_neqE if69 rfl) (oM rfl ?_))))
   refine rl_j (jb 92) je .nil h 17 rfl (fun q38 g38 h => ?_) (fun J39 h hJ39 => ?_)
   ·
    refine oM rfl (rl_j (ι := Bool × GLex) (γ := Unit) (fun q48 g48 => [(99, isv (q48.1))]) (fun q48 g48 => [boxE b_a_l (q48.2 : GLex)]) (.cons .here .nil) h 6 rfl (fun q48 g48 h => ?_) (fun J49 h hJ49 => ?_))
    ·
     refine rnf (w_condM h rfl (fun _ h => ?_) (fun _ h => ?_))
     ·
      refine wsr (oA rfl (oA rfl (rnf (w_ret ?_))))
      refine ret_nxt (ret_post (.tmp rfl (.tmp rfl .nil)) (.cons .here .nil) ?_)
      obtain rfl := Option.some.inj h
      exact ⟨rfl, rfl⟩
     ·
      refine wkf (wsr (oM rfl (oA rfl (oA rfl ?_))))
      refine rnf (w_ret (ret_post (.tmp rfl (.tmp rfl .nil)) (.cons .here .nil) ?_))
      obtain rfl := Option.some.inj h
      exact ⟨rfl, rfl⟩
    ·
     refine rl_condM (j := 93) h rfl (fun g50 h => ?_) (fun g50 h => ?_)
     ·
      refine oP 93 rfl rfl g50 (oP 93 rfl rfl g50 (oP 93 rfl rfl g50 (oP 93 rfl rfl g50 (oP 93 rfl rfl g50 ?_))))
      exact oV (v_pick_t rfl g50 rfl) (hJ49 _ () h _ (join_imp 6 rfl rfl (mod_cons (j := 99) rfl (fun _ _ h => h) mod_nil) (.cons .here .nil)))
     ·
      refine oK 93 rfl rfl rfl g50 (v_move rfl) (oK 93 rfl rfl rfl g50 (v_nilCheck rfl) (oK 93 rfl rfl rfl g50 (v_fa rfl GLex.f0 fd48_0) (cal_inv h fun y51 hy51 h => op_take rfl rfl (dj := 93) rfl g50 (t_call (lex_reader_peek_w hy51) hT (.same rfl (.same rfl .nil)) (.cons .here .nil) (fun R H' hR => ?_)))))
      obtain ⟨rfl, rfl⟩ := hR
      refine cal_inv h fun y52 hy52 h => op_take rfl rfl (dj := 93) rfl g50 (t_call (lex_letter_w hy52) hT (.same rfl .nil) .nil (fun R H' hR => ?_))
      obtain ⟨rfl, rfl⟩ := hR
      exact oV (v_pick_f rfl g50 rfl) (hJ49 _ () h _ (join_imp 6 rfl rfl (mod_cons (j := 99) rfl (fun _ _ h => h) mod_nil) (.cons .here .nil)))
   ·
    refine rl_condM (j := 75) h rfl (fun g40 h => ?_) (fun g40 h => ?_)
    ·
     refine oP 75 rfl rfl g40 (oP 75 rfl rfl g40 (op_passU rfl (dj := 77) rfl (op_passU rfl (dj := 77) rfl (op_passU rfl (dj := 77) rfl ?_))))
     refine op_passU rfl (dj := 77) rfl (op_passU rfl (dj := 77) rfl (op_passU rfl (dj := 77) rfl (op_passU rfl (dj := 77) rfl (op_passU rfl (dj := 77) rfl ?_))))
     refine op_passU rfl (dj := 77) rfl (op_passU rfl (dj := 86) rfl (op_passU rfl (dj := 86) rfl (op_passU rfl (dj := 86) rfl (op_passU rfl (dj := 77) rfl ?_))))
     exact oP 75 rfl rfl g40 (oV (v_pick_t rfl g40 rfl) (hJ39 _ () h _ (join_imp 17 rfl rfl (mod_cons (j := 92) rfl (fun _ _ h => h) mod_nil) (.cons .here .nil))))
    ·
     refine oK 75 rfl rfl rfl g40 (v_move rfl) (oK 75 rfl rfl rfl g40 (v_move rfl) (rl_j (jb 91) je .nil h 14 rfl (fun q41 g41 h => ?_) (fun J42 h hJ42 => ?_)))
     ·
      exact oV (v_pick_f rfl g40 rfl) (hJ39 _ () h _ (join_imp 4 rfl rfl (mod_cons (j := 92) rfl (fun _ _ h => h) mod_nil) (.cons .here .nil)))
     ·
      refine rl_condM (j := 77) h rfl (fun g43 h => ?_) (fun g43 h => ?_)
      ·
       refine oK 77 rfl rfl rfl g43 (v_move rfl) (oK 77 rfl rfl rfl g43 (v_nilCheck rfl) (oK 77 rfl rfl rfl g43 (v_fa rfl GLex.f0 fd48_0) (oK 77 rfl rfl rfl g43 (v_fa rfl GLrd.f1 fd46_1) (op_take rfl rfl (dj := 77) rfl g43 (t_loadC (R := isv (y30.2.reader.at_)) ty3 rfl .here (fun _ _ h => h) ?_)))))
       refine oK 77 rfl rfl rfl g43 (v_move rfl) (ck_inv h fun q44 h => oK 77 rfl rfl rfl g43 (v_sub rfl rfl q44) (oK 77 rfl rfl rfl g43 (v_gtr rfl rfl) (oK 77 rfl rfl rfl g43 (v_move rfl) ?_)))
       refine rl_j (jb 90) je .nil h 4 rfl (fun q45 g45 h => ?_) (fun J46 h hJ46 => ?_)
       ·
        exact oK 75 rfl rfl rfl g40 (v_pick_t rfl g43 rfl) (hJ42 _ () h _ (join_imp 11 rfl rfl (mod_cons (j := 91) rfl (fun _ _ h => h) mod_nil) (.cons .here .nil)))
       ·
        refine rl_condM (j := 86) h rfl (fun g47 h => ?_) (fun g47 h => ?_)
        ·
         exact oP 86 rfl rfl g47 (oP 86 rfl rfl g47 (oP 86 rfl rfl g47 (oK 77 rfl rfl rfl g43 (v_pick_t rfl g47 rfl) (hJ46 _ () h _ (join_imp 4 rfl rfl (mod_cons (j := 90) rfl (fun _ _ h => h) mod_nil) (.cons .here .nil))))))
        ·
         exact oK 86 rfl rfl rfl g47 (v_move rfl) (oK 86 rfl rfl rfl g47 (v_move rfl) (oK 86 rfl rfl rfl g47 (v_gtr rfl rfl) (oK 77 rfl rfl rfl g43 (v_pick_f rfl g47 rfl) (hJ46 _ () h _ (join_imp 4 rfl rfl (mod_cons (j := 90) rfl (fun _ _ h => h) mod_nil) (.cons .here .nil))))))
      ·
       refine oP 77 rfl rfl g43 (oP 77 rfl rfl g43 (oP 77 rfl rfl g43 (oP 77 rfl rfl g43 (oP 77 rfl rfl g43 ?_))))
       refine oP 77 rfl rfl g43 (oP 77 rfl rfl g43 (oP 77 rfl rfl g43 (oP 77 rfl rfl g43 (op_passU rfl (dj := 86) rfl ?_))))
       exact op_passU rfl (dj := 86) rfl (op_passU rfl (dj := 86) rfl (oP 77 rfl rfl g43 (oK 75 rfl rfl rfl g40 (v_pick_f rfl g43 rfl) (hJ42 _ () h _ (join_imp 14 rfl rfl (mod_cons (j := 91) rfl (fun _ _ h => h) mod_nil) (.cons .here .nil))))))
 ·
  refine w_condM h rfl (fun _ h => ?_) (fun _ h => ?_)
  ·
   refine w_region (oM rfl (oV (v_nilCheck rfl) (oV (v_fa rfl GLex.f0 fd48_0) (oV (v_fa rfl GLrd.f1 fd46_1) ?_))))
   refine oT (t_loadC (R := isv (y1.2.reader.at_)) ty3 rfl .here (fun _ _ h => h) (ck_inv h fun q4 h => oV (v_add rfl rfl q4) (oV (v_nilCheck rfl) (oV (v_fa rfl GLex.f0 fd48_0) ?_))))
   exact oV (v_fa rfl GLrd.f1 fd46_1) (oT (t_storeC (y' := ({ y1.2 with reader := { y1.2.reader with at_ := (y1.2.reader.at_ + (1 : Int)) } } : GLex)) ty3 rfl rfl (fun _ _ h => h) .here rfl (rl_nil (hJ3 _ () h _ (join_imp 9 rfl rfl mod_nil (.cons .here .nil))))))
  ·
   exact w_skip (hJ3 _ () h _ (join_imp 0 rfl rfl mod_nil (.cons .here .nil)))


theorem lex_lexer_hex_w : ∀ {a_l : GLex} {b_a_l : Nat} {r : Int × Str × GLex}, lex_lexer_hex a_l = some r → Ctr Tryd.prog 34 [ptrv b_a_l (Fld.id GLex)] [boxE b_a_l (a_l : GLex)] (fun R H => R = oneOf [isv (r.1), isv (r.2.1)] ∧ H = [boxE b_a_l (r.2.2)]) := by
 intro a_l b_a_l r h
 unfold lex_lexer_hex at h
 refine spec_intro Tryd.func34 rfl (by decide +kernel) (by rfl) fun w0 S0 hT => ?_
 refine wsr (oA rfl (oA rfl (rnf (wsr ?_))))
 refine oM rfl (oV (v_nilCheck rfl) (oV (v_fa rfl GLex.f0 fd48_0) (oV (v_fa rfl GLrd.f1 fd46_1) (oT (t_loadC (R := isv (a_l.reader.at_)) ty3 rfl .here (fun _ _ h => h) ?_)))))
 refine ck_inv h fun q1 h => oV (v_add rfl rfl q1) (oV (v_nilCheck rfl) (oV (v_fa rfl GLex.f0 fd48_0) (oV (v_fa rfl GLrd.f1 fd46_1) ?_)))
 refine oT (t_storeC (y' := ({ a_l with reader := { a_l.reader with at_ := (a_l.reader.at_ + (1 : Int)) } } : GLex)) ty3 rfl rfl (fun _ _ h => h) .here rfl (rnf (wsr (oM rfl (oV (v_nilCheck rfl) ?_)))))
 refine oV (v_fa rfl GLex.f0 fd48_0) (oV (v_fa rfl GLrd.f1 fd46_1) (oT (t_loadC (R := isv ((a_l.reader.at_ + (1 : Int)))) ty3 rfl .here (fun _ _ h => h) (oA rfl (rnf ?_)))))
 refine w_seq (wsr (oM rfl (oV (v_nilCheck rfl) (oV (v_fa rfl GLex.f0 fd48_0) ?_))))
 refine cal_inv h fun y2 hy2 h => oT (t_call (lex_reader_peek_w hy2) hT (.same rfl (.same rfl .nil)) (.cons .here .nil) (fun R H' hR => ?_))
 obtain ⟨rfl, rfl⟩ := hR
 refine oA rfl (rnf (w_block (w_lp (ι := UInt8 × GLex) (γ := Unit) (fun q3 g3 => [(5, isv (q3.1))]) (fun q3 g3 => [boxE b_a_l (q3.2 : GLex)]) h () (mod_cons (j := 5) rfl (fun _ _ h => h) mod_nil) (.cons .here .nil) (fun L4 q3 g3 Q41 h hL4 eL4 rL4 => w_seq ?_))))
 refine wsr (oM rfl (cal_inv h fun y23 hy23 h => oT (t_call (lex_digit_w hy23) hT (.same rfl .nil) .nil (fun R H' hR => ?_))))
 obtain ⟨rfl, rfl⟩ := hR
 refine oM rfl (rl_j (jb 34) je .nil h 7 rfl (fun q24 g24 h => ?_) (fun J25 h hJ25 => ?_))
 ·
  refine rnf (w_condM h rfl (fun _ h => ?_) (fun _ h => ?_))
  ·
   refine wkf (w_seq (w_block (w_region (oM rfl ?_))))
   refine oV (v_nilCheck rfl) (oV (v_fa rfl GLex.f0 fd48_0) (oV (v_fa rfl GLrd.f1 fd46_1) (oT (t_loadC (R := isv (q3.2.reader.at_)) ty3 rfl .here (fun _ _ h => h) (ck_inv h fun q30 h => ?_)))))
   refine oV (v_add rfl rfl q30) (oV (v_nilCheck rfl) (oV (v_fa rfl GLex.f0 fd48_0) (oV (v_fa rfl GLrd.f1 fd46_1) (oT (t_storeC (y' := ({ q3.2 with reader := { q3.2.reader with at_ := (q3.2.reader.at_ + (1 : Int)) } } : GLex)) ty3 rfl rfl (fun _ _ h => h) .here rfl ?_)))))
   refine rl_nil (fin_block (fin_nxt (w_region (oM rfl ?_))))
   refine oV (v_nilCheck rfl) (oV (v_fa rfl GLex.f0 fd48_0) (cal_inv h fun y31 hy31 h => oT (t_call (lex_reader_peek_w hy31) hT (.same rfl (.same rfl .nil)) (.cons .here .nil) (fun R H' hR => ?_))))
   obtain ⟨rfl, rfl⟩ := hR
   exact oA rfl (rl_nil (hL4 _ () h _ (join_imp 19 rfl rfl (mod_cons (j := 5) rfl (fun _ _ h => h) mod_nil) (.cons .here .nil))))
  ·
   refine w_exit (exi_nxt (eL4 _ _ (exi_block (fin_nxt ?_))))
   refine w_seq (w_pinN 0 .here rfl (fun o32 hn33 => w_regionD (.v 0 (.v 1 (.v 2 (.v 3 (.v 4 (.v 5 (.v 6 (.v 7 (.v 8 (.v 9 (.v 10 (.v 11 (.v 12 .nil))))))))))))) moOrd (by kernel_rfl) ?_))
   refine rvm rfl rfl (rd_v rfl (v_nilCheckP rfl) (rd_v rfl (v_fp rfl GLex.f0 fd48_0) (rd_v rfl (v_fp rfl GLrd.f0 fd46_0) (rd_v rfl (v_lpC (R := isv (q3.2.reader.s)) ty9 rfl (List.Mem.head _) (fun _ _ h => h)) ?_))))
   refine rvm rfl rfl (rvm rfl rfl (rd_v rfl (v_nilCheckP rfl) (rd_v rfl (v_fp rfl GLex.f0 fd48_0) (rd_v rfl (v_fp rfl GLrd.f1 fd46_1) ?_))))
   refine rd_v rfl (v_lpC (R := isv (q3.2.reader.at_)) ty3 rfl (List.Mem.head _) (fun _ _ h => h)) (asd_inv h fun q34 h => rd_v rfl (v_slS st9 rfl (.inr ⟨_, rfl, rfl⟩) (.inr ⟨_, rfl, rfl⟩) q34.1 q34.2.1 q34.2.2) (rd_v rfl (v_assign rfl) (rd_nil ?_)))
   refine fin_unpinN 0 hn33 rfl (fin_nxt (w_seq (wsr (oM rfl ?_))))
   refine oV (v_lenS st9 rfl) (asr_inv h fun q35 h => oV (v_remI rfl rfl q35) (oV (v_neq rfl rfl) (oM rfl ?_)))
   refine rl_j (ι := Bool × GLex) (γ := Unit) (fun q36 g36 => [(70, isv (q36.1))]) (fun q36 g36 => [boxE b_a_l (q36.2 : GLex)]) (.cons .here .nil) h 6 rfl (fun q36 g36 h => ?_) (fun J37 h hJ37 => ?_)
   ·
    refine rnf (w_condM h rfl (fun _ h => ?_) (fun _ h => ?_))
    ·
     refine wsr (oA rfl (oA rfl (rnf (w_ret ?_))))
     refine ret_nxt (ret_post (.tmp rfl (.tmp rfl .nil)) (.cons .here .nil) ?_)
     obtain rfl := Option.some.inj h
     exact ⟨rfl, rfl⟩
    ·
     refine wkf (wsr (oM rfl (oV (v_nilCheck rfl) (oV (v_fa rfl GLex.f0 fd48_0) ?_))))
     refine oV (v_fa rfl GLrd.f1 fd46_1) (oT (t_loadC (R := isv (q36.2.reader.at_)) ty3 rfl .here (fun _ _ h => h) (ck_inv h fun q40 h => oV (v_add rfl rfl q40) (oV (v_nilCheck rfl) ?_))))
     refine oV (v_fa rfl GLex.f0 fd48_0) (oV (v_fa rfl GLrd.f1 fd46_1) (oT (t_storeC (y' := ({ q36.2 with reader := { q36.2.reader with at_ := (q36.2.reader.at_ + (2 : Int)) } } : GLex)) ty3 rfl rfl (fun _ _ h => h) .here rfl (rnf (wsr ?_)))))
     refine oM rfl (oA rfl (oA rfl (rnf (w_ret ?_))))
     refine ret_post (.tmp rfl (.tmp rfl .nil)) (.cons .here .nil) ?_
     obtain rfl := Option.some.inj h
     exact ⟨rfl, rfl⟩
   ·
    refine rl_condM (j := 64) h rfl (fun g38 h => ?_) (fun g38 h => ?_)
    ·
     refine oP 64 rfl rfl g38 (oP 64 rfl rfl g38 (oP 64 rfl rfl g38 (oP 64 rfl rfl g38 (oP 64 rfl rfl g38 ?_))))
     exact oV (v_pick_t rfl g38 rfl) (hJ37 _ () h _ (join_imp 6 rfl rfl (mod_cons (j := 70) rfl (fun _ _ h => h) mod_nil) (.cons .here .nil)))
    ·
     refine oK 64 rfl rfl rfl g38 (v_move rfl) (oK 64 rfl rfl rfl g38 (v_nilCheck rfl) (oK 64 rfl rfl rfl g38 (v_fa rfl GLex.f0 fd48_0) (cal_inv h fun y39 hy39 h => op_take rfl rfl (dj := 64) rfl g38 (t_call (lex_reader_ahead_w hy39) hT (.same rfl (.same rfl .nil)) (.cons .here .nil) (fun R H' hR => ?_)))))
     obtain ⟨rfl, rfl⟩ := hR
     exact oK 64 rfl rfl rfl g38 (v_not rfl) (oV (v_pick_f rfl g38 rfl) (hJ37 _ () h _ (join_imp 6 rfl rfl (mod_cons (j := 70) rfl (fun _ _ h => h) mod_nil) (.cons .here .nil))))
 ·
  refine rl_condM (j := 27) h rfl (fun g26 h => ?_) (fun g26 h => ?_)
  ·
   refine oP 27 rfl rfl g26 (oP 27 rfl rfl g26 (oP 27 rfl rfl g26 (op_passU rfl (dj := 30) rfl (op_passU rfl (dj := 30) rfl ?_))))
   exact oP 27 rfl rfl g26 (oV (v_pick_t rfl g26 rfl) (hJ25 _ () h _ (join_imp 7 rfl rfl (mod_cons (j := 34) rfl (fun _ _ h => h) mod_nil) (.cons .here .nil))))
  ·
   refine oK 27 rfl rfl rfl g26 (v_move rfl) (oK 27 rfl rfl rfl g26 (v_geq8 rfl rfl) (oK 27 rfl rfl rfl g26 (v_move rfl) (rl_j (jb 33) je .nil h 3 rfl (fun q27 g27 h => ?_) (fun J28 h hJ28 => ?_))))
   ·
    exact oV (v_pick_f rfl g26 rfl) (hJ25 _ () h _ (join_imp 5 rfl rfl (mod_cons (j := 34) rfl (fun _ _ h => h) mod_nil) (.cons .here .nil)))
   ·
    refine rl_condM (j := 30) h rfl (fun g29 h => ?_) (fun g29 h => ?_)
    ·
     exact oK 30 rfl rfl rfl g29 (v_move rfl) (oK 30 rfl rfl rfl g29 (v_leq8 rfl rfl) (oK 27 rfl rfl rfl g26 (v_pick_t rfl g29 rfl) (hJ28 _ () h _ (join_imp 3 rfl rfl (mod_cons (j := 33) rfl (fun _ _ h => h) mod_nil) (.cons .here .nil)))))
    ·
     exact oP 30 rfl rfl g29 (oP 30 rfl rfl g29 (oK 27 rfl rfl rfl g26 (v_pick_f rfl g29 rfl) (hJ28 _ () h _ (join_imp 3 rfl rfl (mod_cons (j := 33) rfl (fun _ _ h => h) mod_nil) (.cons .here .nil)))))


theorem utf8_word_Lbyte_w : ∀ {a_s : (List UInt8)} {r : UInt64}, utf8_word_Lbyte a_s = some r → Ctr Tryd.prog 51 [isv (a_s)] [] (fun R H => R = oneOf [isv (r)] ∧ H = []) := by
 intro a_s r h
 unfold utf8_word_Lbyte at h
 refine spec_intro Tryd.func51 rfl (by decide +kernel) (by rfl) fun w0 S0 hT => ?_
 refine wsr (oA rfl (rnf (w_seq (w_cond_f rfl rfl ?_))))
 refine wkf (w_seq (w_regionD (.v 0 (.v 1 (.v 2 (.v 3 (.v 4 (.v 5 (.v 6 (.v 7 (.v 8 (.v 9 (.v 10 (.v 11 (.v 12 (.v 13 (.v 14 (.v 15 (.v 16 (.v 17 (.v 18 (.v 19 (.v 20 (.v 21 (.v 22 (.v 23 (.v 24 (.v 25 (.v 26 (.v 27 (.v 28 (.v 29 (.v 30 (.v 31 (.v 32 (.v 33 (.v 34 (.v 35 (.v 36 (.v 37 (.v 38 (.v 39 (.v 40 (.v 41 (.v 42 (.v 43 (.v 44 (.v 45 (.v 46 .nil))))))))))))))))))))))))))))))))))))))))))))))) moOrd (by kernel_rfl) ?_))
 refine rvm rfl rfl (cal_inv h fun y1 hy1 h => rd_v rfl (v_ix (l := a_s) rfl (fun _ _ h => h) rfl sl42 hy1) (rd_v rfl (v_loadI ty5 rfl) (rd_v rfl (v_u8u64 Tryd.underlying5 Tryd.underlying32 rfl) ?_)))
 refine rvm rfl rfl (cal_inv h fun y2 hy2 h => rd_v rfl (v_ix (l := a_s) rfl (fun _ _ h => h) rfl sl42 hy2) (rd_v rfl (v_loadI ty5 rfl) (rd_v rfl (v_u8u64 Tryd.underlying5 Tryd.underlying32 rfl) ?_)))
 refine asr_inv h fun q3 h => rd_v rfl (v_shl64 rfl rfl q3) (rd_v rfl (v_or64 rfl rfl) (rvm rfl rfl (cal_inv h fun y4 hy4 h => ?_)))
 refine rd_v rfl (v_ix (l := a_s) rfl (fun _ _ h => h) rfl sl42 hy4) (rd_v rfl (v_loadI ty5 rfl) (rd_v rfl (v_u8u64 Tryd.underlying5 Tryd.underlying32 rfl) (asr_inv h fun q5 h => rd_v rfl (v_shl64 rfl rfl q5) ?_)))
 refine rd_v rfl (v_or64 rfl rfl) (rvm rfl rfl (cal_inv h fun y6 hy6 h => rd_v rfl (v_ix (l := a_s) rfl (fun _ _ h => h) rfl sl42 hy6) (rd_v rfl (v_loadI ty5 rfl) ?_)))
 refine rd_v rfl (v_u8u64 Tryd.underlying5 Tryd.underlying32 rfl) (asr_inv h fun q7 h => rd_v rfl (v_shl64 rfl rfl q7) (rd_v rfl (v_or64 rfl rfl) (rvm rfl rfl ?_)))
 refine cal_inv h fun y8 hy8 h => rd_v rfl (v_ix (l := a_s) rfl (fun _ _ h => h) rfl sl42 hy8) (rd_v rfl (v_loadI ty5 rfl) (rd_v rfl (v_u8u64 Tryd.underlying5 Tryd.underlying32 rfl) (asr_inv h fun q9 h => ?_)))
 refine rd_v rfl (v_shl64 rfl rfl q9) (rd_v rfl (v_or64 rfl rfl) (rvm rfl rfl (cal_inv h fun y10 hy10 h => rd_v rfl (v_ix (l := a_s) rfl (fun _ _ h => h) rfl sl42 hy10) ?_)))
 refine rd_v rfl (v_loadI ty5 rfl) (rd_v rfl (v_u8u64 Tryd.underlying5 Tryd.underlying32 rfl) (asr_inv h fun q11 h => rd_v rfl (v_shl64 rfl rfl q11) (rd_v rfl (v_or64 rfl rfl) ?_)))
 refine rvm rfl rfl (cal_inv h fun y12 hy12 h => rd_v rfl (v_ix (l := a_s) rfl (fun _ _ h => h) rfl sl42 hy12) (rd_v rfl (v_loadI ty5 rfl) (rd_v rfl (v_u8u64 Tryd.underlying5 Tryd.underlying32 rfl) ?_)))
 refine asr_inv h fun q13 h => rd_v rfl (v_shl64 rfl rfl q13) (rd_v rfl (v_or64 rfl rfl) (rvm rfl rfl (cal_inv h fun y14 hy14 h => ?_)))
 refine rd_v rfl (v_ix (l := a_s) rfl (fun _ _ h => h) rfl sl42 hy14) (rd_v rfl (v_loadI ty5 rfl) (rd_v rfl (v_u8u64 Tryd.underlying5 Tryd.underlying32 rfl) (asr_inv h fun q15 h => rd_v rfl (v_shl64 rfl rfl q15) ?_)))
 refine rd_v rfl (v_or64 rfl rfl) (rd_v rfl (v_assign rfl) (rd_nil (fin_nxt (w_ret ?_))))
 refine ret_post (.tmp rfl .nil) .nil ?_
 obtain rfl := Option.some.inj h
 exact ⟨rfl, rfl⟩


theorem utf8_Valid_w : ∀ {a_p : (List UInt8)} {r : Bool}, utf8_Valid a_p = some r → Ctr Tryd.prog 47 [isv (a_p)] [] (fun R H => R = oneOf [isv (r)] ∧ H = []) := by
 intro a_p r h
 unfold utf8_Valid at h
 refine spec_intro Tryd.func47 rfl (by decide +kernel) (by rfl) fun w0 S0 hT => ?_
 refine wsr (oA rfl (rnf (wsr (oM rfl ?_))))
 refine oM rfl (oV (v_ln (l := a_p) rfl (fun _ _ h => h) sl42) (oM rfl (oV (v_ln (l := a_p) rfl (fun _ _ h => h) sl42) (asd_inv h fun q1 h => ?_))))
 refine oV (v_sl3 (l := a_p) rfl (fun _ _ h => h) sl42 rfl rfl q1.1 q1.2) (oA rfl (rnf (w_seq (w_block ?_))))
 refine w_lp (ι := (List UInt8)) (γ := Unit) (fun q2 g2 => [(0, isv (q2))]) (fun q2 g2 => []) h () (mod_cons (j := 0) rfl (fun _ _ h => h) mod_nil) .nil (fun L3 q2 g2 Q194 h hL3 eL3 rL3 => w_seq (wsr (oM rfl (oV (v_ln (l := q2) rfl (fun _ _ h => h) sl42) ?_))))
 refine oV (v_gtr rfl rfl) (rnf (w_condM h rfl (fun _ h => ?_) (fun _ h => ?_)))
 ·
  refine wkf (w_block (wsr (oM rfl (cal_inv h fun y99 hy99 h => ?_))))
  refine oV (v_ix (l := q2) rfl (fun _ _ h => h) rfl sl42 hy99) (oV (v_loadI ty5 rfl) (oA rfl (rnf (w_seq ?_))))
  refine wsr (oM rfl (oV (v_lss8 rfl rfl) (rnf (w_condM h rfl (fun _ h => ?_) (fun _ h => ?_)))))
  ·
   refine wsr (oM rfl (asd_inv h fun q100 h => oV (v_sl (l := q2) rfl (fun _ _ h => h) sl42 (.inr ⟨_, rfl, rfl⟩) (.inl ⟨rfl, rfl⟩) q100.1 q100.2.1 q100.2.2) (oA rfl ?_)))
   refine rnf (w_seq (wsr (oM rfl (oV (v_ln (l := ((q2.take ((q2.length : Int)).toNat).drop ((1 : Int)).toNat)) rfl (fun _ _ h => h) sl42) ?_))))
   refine oV (v_gtr rfl rfl) (oM rfl (rl_j (jb 31) je .nil h 5 rfl (fun q101 g101 h => ?_) (fun J102 h hJ102 => ?_)))
   ·
    refine rnf (w_J (ι := (List UInt8)) (γ := Unit) (fun q105 g105 => [(0, isv (q105))]) (fun q105 g105 => []) .nil h (fun q105 g105 h => ?_) (fun J106 h hJ106 => ?_))
    ·
     exact w_exit (exi_nxt (exi_block (hL3 _ () h _ (ji 19 0 rfl rfl rfl))))
    ·
     refine w_condM h rfl (fun _ h => ?_) (fun _ h => ?_)
     ·
      refine wsr (oM rfl (asd_inv h fun q107 h => oV (v_sl (l := ((q2.take ((q2.length : Int)).toNat).drop ((1 : Int)).toNat)) rfl (fun _ _ h => h) sl42 (.inr ⟨_, rfl, rfl⟩) (.inl ⟨rfl, rfl⟩) q107.1 q107.2.1 q107.2.2) (oA rfl ?_)))
      refine rnf (w_seq (w_regionD (.v 0 (.v 1 (.v 2 (.v 3 (.v 4 (.v 6 (.v 7 (.t 5 (.t 8 (.v 9 (.v 10 (.v 11 (.v 12 .nil))))))))))))) moOrd (by kernel_rfl) ?_))
      refine rvm rfl rfl (rd_v rfl (v_ln (l := ((((q2.take ((q2.length : Int)).toNat).drop ((1 : Int)).toNat).take ((((q2.take ((q2.length : Int)).toNat).drop ((1 : Int)).toNat).length : Int)).toNat).drop ((8 : Int)).toNat)) rfl (fun _ _ h => h) sl42) (rd_v rfl (v_gtr rfl rfl) (rvm rfl rfl (rd_j (jb 46) je .nil h 9 rfl (fun q108 g108 h => ?_) (fun J109 h hJ109 => ?_)))))
      ·
       refine rd_nil (fin_nxt (w_condM h rfl (fun _ h => ?_) (fun _ h => ?_)))
       ·
        refine wsr (oM rfl (asd_inv h fun q114 h => oV (v_sl (l := ((((q2.take ((q2.length : Int)).toNat).drop ((1 : Int)).toNat).take ((((q2.take ((q2.length : Int)).toNat).drop ((1 : Int)).toNat).length : Int)).toNat).drop ((8 : Int)).toNat)) rfl (fun _ _ h => h) sl42 (.inr ⟨_, rfl, rfl⟩) (.inl ⟨rfl, rfl⟩) q114.1 q114.2.1 q114.2.2) (oA rfl ?_)))
        refine rnf (w_block (w_lp (ι := (List UInt8)) (γ := Unit) (fun q115 g115 => [(0, isv (q115))]) (fun q115 g115 => []) h () (mod_cons (j := 0) rfl (fun _ _ h => h) mod_nil) .nil (fun L116 q115 g115 Q139 h hL116 eL116 rL116 => w_seq (w_seq ?_))))
        refine w_regionD (.v 0 (.v 1 (.v 2 (.v 3 (.v 4 (.v 6 (.v 7 (.v 10 (.v 11 (.v 13 (.v 14 (.t 5 (.t 8 (.v 9 (.t 12 (.t 15 (.v 16 (.v 17 (.v 18 (.v 19 (.v 20 .nil))))))))))))))))))))) moOrd (by kernel_rfl) ?_
        refine rvm rfl rfl (rd_v rfl (v_ln (l := q115) rfl (fun _ _ h => h) sl42) (rd_v rfl (v_gtr rfl rfl) (rvm rfl rfl (rd_j (jb 69) je .nil h 17 rfl (fun q128 g128 h => ?_) (fun J129 h hJ129 => ?_)))))
        ·
         refine rd_nil (fin_nxt (w_condM h rfl (fun _ h => ?_) (fun _ h => ?_)))
         ·
          refine wkf (w_block (w_region (oM rfl (asd_inv h fun q138 h => ?_))))
          exact oV (v_sl (l := q115) rfl (fun _ _ h => h) sl42 (.inr ⟨_, rfl, rfl⟩) (.inl ⟨rfl, rfl⟩) q138.1 q138.2.1 q138.2.2) (oA rfl (rl_nil (fin_block (hL116 _ () h _ (ji 9 0 rfl rfl rfl)))))
         ·
          exact w_exit (exi_nxt (eL116 _ _ (exi_block (hJ106 _ () h _ (ji 17 0 rfl rfl rfl)))))
        ·
         refine rd_condM (j := 52) h rfl (fun g130 h => ?_) (fun g130 h => ?_)
         ·
          refine rvt 52 rfl rfl rfl g130 (v_move rfl) (rvt 52 rfl rfl rfl g130 (v_move rfl) (asd_inv h fun q131 h => rvt 52 rfl rfl rfl g130 (v_sl (l := q115) rfl (fun _ _ h => h) sl42 (.inr ⟨_, rfl, rfl⟩) (.inl ⟨rfl, rfl⟩) q131.1 q131.2.1 q131.2.2) (rvt 52 rfl rfl rfl g130 (v_move rfl) ?_)))
          refine asd_inv h fun q132 h => rvt 52 rfl rfl rfl g130 (v_sl (l := q115) rfl (fun _ _ h => h) sl42 (.inr ⟨_, rfl, rfl⟩) (.inl ⟨rfl, rfl⟩) q132.1 q132.2.1 q132.2.2) (rvt 52 rfl rfl rfl g130 (v_move rfl) (asd_inv h fun q133 h => rvt 52 rfl rfl rfl g130 (v_sl (l := q115) rfl (fun _ _ h => h) sl42 (.inr ⟨_, rfl, rfl⟩) (.inl ⟨rfl, rfl⟩) q133.1 q133.2.1 q133.2.2) ?_))
          refine cal_inv h fun y134 hy134 h => rd_tt rfl rfl rfl (dj := 52) rfl g130 (t_call (utf8_word_Lbyte_w hy134) hT (.same rfl .nil) .nil (fun R H' hR => ?_))
          obtain ⟨rfl, rfl⟩ := hR
          refine cal_inv h fun y135 hy135 h => rd_tt rfl rfl rfl (dj := 52) rfl g130 (t_call (utf8_word_Lbyte_w hy135) hT (.same rfl .nil) .nil (fun R H' hR => ?_))
          obtain ⟨rfl, rfl⟩ := hR
          refine rvt 52 rfl rfl rfl g130 (v_or64 rfl rfl) (cal_inv h fun y136 hy136 h => rd_tt rfl rfl rfl (dj := 52) rfl g130 (t_call (utf8_word_Lbyte_w hy136) hT (.same rfl .nil) .nil (fun R H' hR => ?_)))
          obtain ⟨rfl, rfl⟩ := hR
          refine cal_inv h fun y137 hy137 h => rd_tt rfl rfl rfl (dj := 52) rfl g130 (t_call (utf8_word_Lbyte_w hy137) hT (.same rfl .nil) .nil (fun R H' hR => ?_))
          obtain ⟨rfl, rfl⟩ := hR
          refine rvt 52 rfl rfl rfl g130 (v_or64 rfl rfl) (rvt 52 rfl rfl rfl g130 (v_or64 rfl rfl) (rvt 52 rfl rfl rfl g130 (v_and64 rfl rfl) (rvt 52 rfl rfl rfl g130 (v_eql64 rfl rfl) (rd_v rfl (v_pick_t rfl g130 rfl) ?_))))
          exact hJ129 _ () h _ (ji 17 69 rfl rfl rfl)
         ·
          refine rpv 52 rfl rfl rfl g130 (rpv 52 rfl rfl rfl g130 (rpv 52 rfl rfl rfl g130 (rpv 52 rfl rfl rfl g130 (rpv 52 rfl rfl rfl g130 ?_))))
          refine rpv 52 rfl rfl rfl g130 (rpv 52 rfl rfl rfl g130 (rd_passT rfl rfl (dj := 52) rfl g130 (rd_passT rfl rfl (dj := 52) rfl g130 (rpv 52 rfl rfl rfl g130 ?_))))
          refine rd_passT rfl rfl (dj := 52) rfl g130 (rd_passT rfl rfl (dj := 52) rfl g130 (rpv 52 rfl rfl rfl g130 (rpv 52 rfl rfl rfl g130 (rpv 52 rfl rfl rfl g130 ?_))))
          exact rpv 52 rfl rfl rfl g130 (rd_v rfl (v_pick_f rfl g130 rfl) (hJ129 _ () h _ (ji 17 69 rfl rfl rfl)))
       ·
        exact w_skip (hJ106 _ () h _ (ji 8 0 rfl rfl rfl))
      ·
       refine rd_condM (j := 37) h rfl (fun g110 h => ?_) (fun g110 h => ?_)
       ·
        refine rvt 37 rfl rfl rfl g110 (v_move rfl) (rvt 37 rfl rfl rfl g110 (v_move rfl) (asd_inv h fun q111 h => rvt 37 rfl rfl rfl g110 (v_sl (l := ((((q2.take ((q2.length : Int)).toNat).drop ((1 : Int)).toNat).take ((((q2.take ((q2.length : Int)).toNat).drop ((1 : Int)).toNat).length : Int)).toNat).drop ((8 : Int)).toNat)) rfl (fun _ _ h => h) sl42 (.inr ⟨_, rfl, rfl⟩) (.inl ⟨rfl, rfl⟩) q111.1 q111.2.1 q111.2.2) (cal_inv h fun y112 hy112 h => ?_)))
        refine rd_tt rfl rfl rfl (dj := 37) rfl g110 (t_call (utf8_word_Lbyte_w hy112) hT (.same rfl .nil) .nil (fun R H' hR => ?_))
        obtain ⟨rfl, rfl⟩ := hR
        refine cal_inv h fun y113 hy113 h => rd_tt rfl rfl rfl (dj := 37) rfl g110 (t_call (utf8_word_Lbyte_w hy113) hT (.same rfl .nil) .nil (fun R H' hR => ?_))
        obtain ⟨rfl, rfl⟩ := hR
        exact rvt 37 rfl rfl rfl g110 (v_or64 rfl rfl) (rvt 37 rfl rfl rfl g110 (v_and64 rfl rfl) (rvt 37 rfl rfl rfl g110 (v_eql64 rfl rfl) (rd_v rfl (v_pick_t rfl g110 rfl) (hJ109 _ () h _ (ji 9 46 rfl rfl rfl)))))
       ·
        refine rpv 37 rfl rfl rfl g110 (rpv 37 rfl rfl rfl g110 (rpv 37 rfl rfl rfl g110 (rd_passT rfl rfl (dj := 37) rfl g110 (rd_passT rfl rfl (dj := 37) rfl g110 ?_))))
        exact rpv 37 rfl rfl rfl g110 (rpv 37 rfl rfl rfl g110 (rpv 37 rfl rfl rfl g110 (rd_v rfl (v_pick_f rfl g110 rfl) (hJ109 _ () h _ (ji 9 46 rfl rfl rfl)))))
     ·
      exact w_skip (hJ106 _ () h _ (ji 0 0 rfl rfl rfl))
   ·
    refine rl_condM (j := 26) h rfl (fun g103 h => ?_) (fun g103 h => ?_)
    ·
     refine oK 26 rfl rfl rfl g103 (v_move rfl) (cal_inv h fun y104 hy104 h => op_take rfl rfl (dj := 26) rfl g103 (t_call (utf8_word_Lbyte_w hy104) hT (.same rfl .nil) .nil (fun R H' hR => ?_)))
     obtain ⟨rfl, rfl⟩ := hR
     exact oK 26 rfl rfl rfl g103 (v_and64 rfl rfl) (oK 26 rfl rfl rfl g103 (v_eql64 rfl rfl) (oV (v_pick_t rfl g103 rfl) (hJ102 _ () h _ (ji 5 31 rfl rfl rfl))))
    ·
     refine oP 26 rfl rfl g103 (oP 26 rfl rfl g103 (oP 26 rfl rfl g103 (oP 26 rfl rfl g103 (oV (v_pick_f rfl g103 rfl) ?_))))
     exact hJ102 _ () h _ (ji 5 31 rfl rfl rfl)
  ·
   refine wkf (wsr (oM rfl (oV (v_t1 gl_first ar59 rfl) (oV (v_t1l hT ty5 rfl _ gl_acceptRanges) ?_))))
   refine oA rfl (rnf (wsr (oM rfl (oV (v_and8 rfl rfl) ?_))))
   refine oV (v_u8i Tryd.underlying5 Tryd.underlying3 rfl) (oA rfl (rnf (wsr (oM rfl ?_))))
   refine asr_inv h fun q140 h => oV (v_shr8 rfl rfl q140) (asr_inv h fun q141 h => oV (v_t2 gl_acceptRanges ar62 rfl q141) (oV (v_t2l hT ty61 rfl q141 _ gl_first) ?_))
   refine oT (t_alloc _ ze61 fun b142 => oT (t_storeC (y' := ((tab2 (shr8 (tab1 y99) (4 : UInt64).toNat)) : GAcc)) ty61 rfl rfl (fun _ _ h => h) .here rfl (rl_upd (upd_imm 6 .here rfl) (rnf (wsr ?_)))))
   refine oM rfl (rnf (w_block (wsr (oV (v_eql rfl rfl) ?_))))
   refine oA rfl (rnf (w_condM h rfl (fun _ h => ?_) (fun _ h => ?_)))
   ·
    refine w_seq (w_seq (w_regionD (.v 0 (.v 1 (.v 2 (.v 3 (.v 4 (.v 5 (.v 6 (.v 7 (.v 8 (.v 9 (.v 10 (.v 11 (.v 12 (.v 13 (.v 14 (.v 15 (.v 16 (.v 17 (.v 18 .nil))))))))))))))))))) moOrd (by kernel_rfl) ?_))
    refine rvm rfl rfl (rd_v rfl (v_ln (l := q2) rfl (fun _ _ h => h) sl42) (rd_v rfl (v_lss rfl rfl) (rvm rfl rfl (rd_j (jb 95) je .nil h 7 rfl (fun q143 g143 h => ?_) (fun J144 h hJ144 => ?_)))))
    ·
     refine rvm rfl rfl (rd_j (jb 103) je .nil h 7 rfl (fun q147 g147 h => ?_) (fun J148 h hJ148 => ?_))
     ·
      refine rd_nil (fin_nxt (w_condM h rfl (fun _ h => ?_) (fun _ h => ?_)))
      ·
       refine wsr (oA rfl (rnf (w_ret (ret_nxt ?_))))
       refine ret_block (ret_block (rL3 _ (ret_block (ret_nxt ?_))))
       refine ret_post (.tmp rfl .nil) .nil ?_
       obtain rfl := Option.some.inj h
       exact ⟨rfl, rfl⟩
      ·
       refine wkf (w_region (oM rfl (asd_inv h fun q151 h => oV (v_sl (l := q2) rfl (fun _ _ h => h) sl42 (.inr ⟨_, rfl, rfl⟩) (.inl ⟨rfl, rfl⟩) q151.1 q151.2.1 q151.2.2) ?_)))
       exact oA rfl (rl_nil (fin_block (fin_block (hL3 _ () h _ (ji 37 0 rfl rfl rfl)))))
     ·
      refine rd_condM (j := 96) h rfl (fun g149 h => ?_) (fun g149 h => ?_)
      ·
       refine rpv 96 rfl rfl rfl g149 (rpv 96 rfl rfl rfl g149 (rpv 96 rfl rfl rfl g149 (rpv 96 rfl rfl rfl g149 (rpv 96 rfl rfl rfl g149 ?_))))
       exact rpv 96 rfl rfl rfl g149 (rd_v rfl (v_pick_t rfl g149 rfl) (hJ148 _ () h _ (ji 7 103 rfl rfl rfl)))
      ·
       refine rvt 96 rfl rfl rfl g149 (v_fi rfl GAcc.f1 fd61_1 rfl (z := (tab2 (shr8 (tab1 y99) (4 : UInt64).toNat)).hi)) (rvt 96 rfl rfl rfl g149 (v_loadI ty5 rfl) (rvt 96 rfl rfl rfl g149 (v_move rfl) (cal_inv h fun y150 hy150 h => rvt 96 rfl rfl rfl g149 (v_ix (l := q2) rfl (fun _ _ h => h) rfl sl42 hy150) ?_)))
       exact rvt 96 rfl rfl rfl g149 (v_loadI ty5 rfl) (rvt 96 rfl rfl rfl g149 (v_lss8 rfl rfl) (rd_v rfl (v_pick_f rfl g149 rfl) (hJ148 _ () h _ (ji 7 103 rfl rfl rfl))))
    ·
     refine rd_condM (j := 88) h rfl (fun g145 h => ?_) (fun g145 h => ?_)
     ·
      refine rpv 88 rfl rfl rfl g145 (rpv 88 rfl rfl rfl g145 (rpv 88 rfl rfl rfl g145 (rpv 88 rfl rfl rfl g145 (rpv 88 rfl rfl rfl g145 ?_))))
      exact rpv 88 rfl rfl rfl g145 (rd_v rfl (v_pick_t rfl g145 rfl) (hJ144 _ () h _ (ji 7 95 rfl rfl rfl)))
     ·
      refine rvt 88 rfl rfl rfl g145 (v_move rfl) (cal_inv h fun y146 hy146 h => rvt 88 rfl rfl rfl g145 (v_ix (l := q2) rfl (fun _ _ h => h) rfl sl42 hy146) (rvt 88 rfl rfl rfl g145 (v_loadI ty5 rfl) (rvt 88 rfl rfl rfl g145 (v_fi rfl GAcc.f0 fd61_0 rfl (z := (tab2 (shr8 (tab1 y99) (4 : UInt64).toNat)).lo)) ?_)))
      exact rvt 88 rfl rfl rfl g145 (v_loadI ty5 rfl) (rvt 88 rfl rfl rfl g145 (v_lss8 rfl rfl) (rd_v rfl (v_pick_f rfl g145 rfl) (hJ144 _ () h _ (ji 7 95 rfl rfl rfl))))
   ·
    refine wsr (oV (v_eql rfl rfl) (oA rfl (rnf (w_condM h rfl (fun _ h => ?_) (fun _ h => ?_)))))
    ·
     refine w_seq (w_seq (w_regionD (.v 0 (.v 1 (.v 2 (.v 3 (.v 4 (.v 5 (.v 6 (.v 7 (.v 8 (.v 9 (.v 10 (.v 11 (.v 12 (.v 13 (.v 14 (.v 15 (.v 16 (.v 17 (.v 18 (.v 19 (.v 20 (.v 21 (.v 22 (.v 23 (.v 24 (.v 25 (.v 26 (.v 27 (.v 28 (.v 29 (.v 30 .nil))))))))))))))))))))))))))))))) moOrd (by kernel_rfl) ?_))
     refine rvm rfl rfl (rd_v rfl (v_ln (l := q2) rfl (fun _ _ h => h) sl42) (rd_v rfl (v_lss rfl rfl) (rvm rfl rfl (rd_j (jb 118) je .nil h 7 rfl (fun q152 g152 h => ?_) (fun J153 h hJ153 => ?_)))))
     ·
      refine rvm rfl rfl (rd_j (jb 126) je .nil h 7 rfl (fun q156 g156 h => ?_) (fun J157 h hJ157 => ?_))
      ·
       refine rvm rfl rfl (rd_j (jb 132) je .nil h 5 rfl (fun q160 g160 h => ?_) (fun J161 h hJ161 => ?_))
       ·
        refine rvm rfl rfl (rd_j (jb 138) je .nil h 5 rfl (fun q164 g164 h => ?_) (fun J165 h hJ165 => ?_))
        ·
         refine rd_nil (fin_nxt (w_condM h rfl (fun _ h => ?_) (fun _ h => ?_)))
         ·
          refine wsr (oA rfl (rnf (w_ret (ret_nxt ?_))))
          refine ret_block (ret_block (rL3 _ (ret_block (ret_nxt ?_))))
          refine ret_post (.tmp rfl .nil) .nil ?_
          obtain rfl := Option.some.inj h
          exact ⟨rfl, rfl⟩
         ·
          refine wkf (w_region (oM rfl (asd_inv h fun q168 h => oV (v_sl (l := q2) rfl (fun _ _ h => h) sl42 (.inr ⟨_, rfl, rfl⟩) (.inl ⟨rfl, rfl⟩) q168.1 q168.2.1 q168.2.2) ?_)))
          exact oA rfl (rl_nil (fin_block (fin_block (hL3 _ () h _ (ji 43 0 rfl rfl rfl)))))
        ·
         refine rd_condM (j := 133) h rfl (fun g166 h => ?_) (fun g166 h => ?_)
         ·
          refine rpv 133 rfl rfl rfl g166 (rpv 133 rfl rfl rfl g166 (rpv 133 rfl rfl rfl g166 (rpv 133 rfl rfl rfl g166 (rd_v rfl (v_pick_t rfl g166 rfl) ?_))))
          exact hJ165 _ () h _ (ji 5 138 rfl rfl rfl)
         ·
          refine rvt 133 rfl rfl rfl g166 (v_move rfl) (cal_inv h fun y167 hy167 h => rvt 133 rfl rfl rfl g166 (v_ix (l := q2) rfl (fun _ _ h => h) rfl sl42 hy167) (rvt 133 rfl rfl rfl g166 (v_loadI ty5 rfl) (rvt 133 rfl rfl rfl g166 (v_lss8 rfl rfl) ?_)))
          exact rd_v rfl (v_pick_f rfl g166 rfl) (hJ165 _ () h _ (ji 5 138 rfl rfl rfl))
       ·
        refine rd_condM (j := 127) h rfl (fun g162 h => ?_) (fun g162 h => ?_)
        ·
         refine rpv 127 rfl rfl rfl g162 (rpv 127 rfl rfl rfl g162 (rpv 127 rfl rfl rfl g162 (rpv 127 rfl rfl rfl g162 (rd_v rfl (v_pick_t rfl g162 rfl) ?_))))
         exact hJ161 _ () h _ (ji 5 132 rfl rfl rfl)
        ·
         refine rvt 127 rfl rfl rfl g162 (v_move rfl) (cal_inv h fun y163 hy163 h => rvt 127 rfl rfl rfl g162 (v_ix (l := q2) rfl (fun _ _ h => h) rfl sl42 hy163) (rvt 127 rfl rfl rfl g162 (v_loadI ty5 rfl) (rvt 127 rfl rfl rfl g162 (v_lss8 rfl rfl) ?_)))
         exact rd_v rfl (v_pick_f rfl g162 rfl) (hJ161 _ () h _ (ji 5 132 rfl rfl rfl))
      ·
       refine rd_condM (j := 119) h rfl (fun g158 h => ?_) (fun g158 h => ?_)
       ·
        refine rpv 119 rfl rfl rfl g158 (rpv 119 rfl rfl rfl g158 (rpv 119 rfl rfl rfl g158 (rpv 119 rfl rfl rfl g158 (rpv 119 rfl rfl rfl g158 ?_))))
        exact rpv 119 rfl rfl rfl g158 (rd_v rfl (v_pick_t rfl g158 rfl) (hJ157 _ () h _ (ji 7 126 rfl rfl rfl)))
       ·
        refine rvt 119 rfl rfl rfl g158 (v_fi rfl GAcc.f1 fd61_1 rfl (z := (tab2 (shr8 (tab1 y99) (4 : UInt64).toNat)).hi)) (rvt 119 rfl rfl rfl g158 (v_loadI ty5 rfl) (rvt 119 rfl rfl rfl g158 (v_move rfl) (cal_inv h fun y159 hy159 h => rvt 119 rfl rfl rfl g158 (v_ix (l := q2) rfl (fun _ _ h => h) rfl sl42 hy159) ?_)))
        exact rvt 119 rfl rfl rfl g158 (v_loadI ty5 rfl) (rvt 119 rfl rfl rfl g158 (v_lss8 rfl rfl) (rd_v rfl (v_pick_f rfl g158 rfl) (hJ157 _ () h _ (ji 7 126 rfl rfl rfl))))
     ·
      refine rd_condM (j := 111) h rfl (fun g154 h => ?_) (fun g154 h => ?_)
      ·
       refine rpv 111 rfl rfl rfl g154 (rpv 111 rfl rfl rfl g154 (rpv 111 rfl rfl rfl g154 (rpv 111 rfl rfl rfl g154 (rpv 111 rfl rfl rfl g154 ?_))))
       exact rpv 111 rfl rfl rfl g154 (rd_v rfl (v_pick_t rfl g154 rfl) (hJ153 _ () h _ (ji 7 118 rfl rfl rfl)))
      ·
       refine rvt 111 rfl rfl rfl g154 (v_move rfl) (cal_inv h fun y155 hy155 h => rvt 111 rfl rfl rfl g154 (v_ix (l := q2) rfl (fun _ _ h => h) rfl sl42 hy155) (rvt 111 rfl rfl rfl g154 (v_loadI ty5 rfl) (rvt 111 rfl rfl rfl g154 (v_fi rfl GAcc.f0 fd61_0 rfl (z := (tab2 (shr8 (tab1 y99) (4 : UInt64).toNat)).lo)) ?_)))
       exact rvt 111 rfl rfl rfl g154 (v_loadI ty5 rfl) (rvt 111 rfl rfl rfl g154 (v_lss8 rfl rfl) (rd_v rfl (v_pick_f rfl g154 rfl) (hJ153 _ () h _ (ji 7 118 rfl rfl rfl))))
    ·
     refine wsr (oV (v_eql rfl rfl) (oA rfl (rnf (w_condM h rfl (fun _ h => ?_) (fun _ h => ?_)))))
     ·
      refine w_seq (w_seq (w_regionD (.v 0 (.v 1 (.v 2 (.v 3 (.v 4 (.v 5 (.v 6 (.v 7 (.v 8 (.v 9 (.v 10 (.v 11 (.v 12 (.v 13 (.v 14 (.v 15 (.v 16 (.v 17 (.v 18 (.v 19 (.v 20 (.v 21 (.v 22 (.v 23 (.v 24 (.v 25 (.v 26 (.v 27 (.v 28 (.v 29 (.v 30 (.v 31 (.v 32 (.v 33 (.v 34 (.v 35 (.v 36 (.v 37 (.v 38 (.v 39 (.v 40 (.v 41 (.v 42 .nil))))))))))))))))))))))))))))))))))))))))))) moOrd (by kernel_rfl) ?_))
      refine rvm rfl rfl (rd_v rfl (v_ln (l := q2) rfl (fun _ _ h => h) sl42) (rd_v rfl (v_lss rfl rfl) (rvm rfl rfl (rd_j (jb 153) je .nil h 7 rfl (fun q169 g169 h => ?_) (fun J170 h hJ170 => ?_)))))
      ·
       refine rvm rfl rfl (rd_j (jb 161) je .nil h 7 rfl (fun q173 g173 h => ?_) (fun J174 h hJ174 => ?_))
       ·
        refine rvm rfl rfl (rd_j (jb 167) je .nil h 5 rfl (fun q177 g177 h => ?_) (fun J178 h hJ178 => ?_))
        ·
         refine rvm rfl rfl (rd_j (jb 173) je .nil h 5 rfl (fun q181 g181 h => ?_) (fun J182 h hJ182 => ?_))
         ·
          refine rvm rfl rfl (rd_j (jb 179) je .nil h 5 rfl (fun q185 g185 h => ?_) (fun J186 h hJ186 => ?_))
          ·
           refine rvm rfl rfl (rd_j (jb 185) je .nil h 5 rfl (fun q189 g189 h => ?_) (fun J190 h hJ190 => ?_))
           ·
            refine rd_nil (fin_nxt (w_condM h rfl (fun _ h => ?_) (fun _ h => ?_)))
            ·
             refine wsr (oA rfl (rnf (w_ret (ret_nxt ?_))))
             refine ret_block (ret_block (rL3 _ (ret_block (ret_nxt ?_))))
             refine ret_post (.tmp rfl .nil) .nil ?_
             obtain rfl := Option.some.inj h
             exact ⟨rfl, rfl⟩
            ·
             refine wkf (w_region (oM rfl (asd_inv h fun q193 h => oV (v_sl (l := q2) rfl (fun _ _ h => h) sl42 (.inr ⟨_, rfl, rfl⟩) (.inl ⟨rfl, rfl⟩) q193.1 q193.2.1 q193.2.2) ?_)))
             exact oA rfl (rl_nil (fin_block (fin_block (hL3 _ () h _ (ji 49 0 rfl rfl rfl)))))
           ·
            refine rd_condM (j := 180) h rfl (fun g191 h => ?_) (fun g191 h => ?_)
            ·
             refine rpv 180 rfl rfl rfl g191 (rpv 180 rfl rfl rfl g191 (rpv 180 rfl rfl rfl g191 (rpv 180 rfl rfl rfl g191 (rd_v rfl (v_pick_t rfl g191 rfl) ?_))))
             exact hJ190 _ () h _ (ji 5 185 rfl rfl rfl)
            ·
             refine rvt 180 rfl rfl rfl g191 (v_move rfl) (cal_inv h fun y192 hy192 h => rvt 180 rfl rfl rfl g191 (v_ix (l := q2) rfl (fun _ _ h => h) rfl sl42 hy192) (rvt 180 rfl rfl rfl g191 (v_loadI ty5 rfl) (rvt 180 rfl rfl rfl g191 (v_lss8 rfl rfl) ?_)))
             exact rd_v rfl (v_pick_f rfl g191 rfl) (hJ190 _ () h _ (ji 5 185 rfl rfl rfl))
          ·
           refine rd_condM (j := 174) h rfl (fun g187 h => ?_) (fun g187 h => ?_)
           ·
            refine rpv 174 rfl rfl rfl g187 (rpv 174 rfl rfl rfl g187 (rpv 174 rfl rfl rfl g187 (rpv 174 rfl rfl rfl g187 (rd_v rfl (v_pick_t rfl g187 rfl) ?_))))
            exact hJ186 _ () h _ (ji 5 179 rfl rfl rfl)
           ·
            refine rvt 174 rfl rfl rfl g187 (v_move rfl) (cal_inv h fun y188 hy188 h => rvt 174 rfl rfl rfl g187 (v_ix (l := q2) rfl (fun _ _ h => h) rfl sl42 hy188) (rvt 174 rfl rfl rfl g187 (v_loadI ty5 rfl) (rvt 174 rfl rfl rfl g187 (v_lss8 rfl rfl) ?_)))
            exact rd_v rfl (v_pick_f rfl g187 rfl) (hJ186 _ () h _ (ji 5 179 rfl rfl rfl))
         ·
          refine rd_condM (j := 168) h rfl (fun g183 h => ?_) (fun g183 h => ?_)
          ·
           refine rpv 168 rfl rfl rfl g183 (rpv 168 rfl rfl rfl g183 (rpv 168 rfl rfl rfl g183 (rpv 168 rfl rfl rfl g183 (rd_v rfl (v_pick_t rfl g183 rfl) ?_))))
           exact hJ182 _ () h _ (ji 5 173 rfl rfl rfl)
          ·
           refine rvt 168 rfl rfl rfl g183 (v_move rfl) (cal_inv h fun y184 hy184 h => rvt 168 rfl rfl rfl g183 (v_ix (l := q2) rfl (fun _ _ h => h) rfl sl42 hy184) (rvt 168 rfl rfl rfl g183 (v_loadI ty5 rfl) (rvt 168 rfl rfl rfl g183 (v_lss8 rfl rfl) ?_)))
           exact rd_v rfl (v_pick_f rfl g183 rfl) (hJ182 _ () h _ (ji 5 173 rfl rfl rfl))
        ·
         refine rd_condM (j := 162) h rfl (fun g179 h => ?_) (fun g179 h => ?_)
         ·
          refine rpv 162 rfl rfl rfl g179 (rpv 162 rfl rfl rfl g179 (rpv 162 rfl rfl rfl g179 (rpv 162 rfl rfl rfl g179 (rd_v rfl (v_pick_t rfl g179 rfl) ?_))))
          exact hJ178 _ () h _ (ji 5 167 rfl rfl rfl)
         ·
          refine rvt 162 rfl rfl rfl g179 (v_move rfl) (cal_inv h fun y180 hy180 h => rvt 162 rfl rfl rfl g179 (v_ix (l := q2) rfl (fun _ _ h => h) rfl sl42 hy180) (rvt 162 rfl rfl rfl g179 (v_loadI ty5 rfl) (rvt 162 rfl rfl rfl g179 (v_lss8 rfl rfl) ?_)))
          exact rd_v rfl (v_pick_f rfl g179 rfl) (hJ178 _ () h _ (ji 5 167 rfl rfl rfl))
       ·
        refine rd_condM (j := 154) h rfl (fun g175 h => ?_) (fun g175 h => ?_)
        ·
         refine rpv 154 rfl rfl rfl g175 (rpv 154 rfl rfl rfl g175 (rpv 154 rfl rfl rfl g175 (rpv 154 rfl rfl rfl g175 (rpv 154 rfl rfl rfl g175 ?_))))
         exact rpv 154 rfl rfl rfl g175 (rd_v rfl (v_pick_t rfl g175 rfl) (hJ174 _ () h _ (ji 7 161 rfl rfl rfl)))
        ·
         refine rvt 154 rfl rfl rfl g175 (v_fi rfl GAcc.f1 fd61_1 rfl (z := (tab2 (shr8 (tab1 y99) (4 : UInt64).toNat)).hi)) (rvt 154 rfl rfl rfl g175 (v_loadI ty5 rfl) (rvt 154 rfl rfl rfl g175 (v_move rfl) (cal_inv h fun y176 hy176 h => rvt 154 rfl rfl rfl g175 (v_ix (l := q2) rfl (fun _ _ h => h) rfl sl42 hy176) ?_)))
         exact rvt 154 rfl rfl rfl g175 (v_loadI ty5 rfl) (rvt 154 rfl rfl rfl g175 (v_lss8 rfl rfl) (rd_v rfl (v_pick_f rfl g175 rfl) (hJ174 _ () h _ (ji 7 161 rfl rfl rfl))))
      ·
       refine rd_condM (j := 146) h rfl (fun g171 h => ?_) (fun g171 h => ?_)
       ·
        refine rpv 146 rfl rfl rfl g171 (rpv 146 rfl rfl rfl g171 (rpv 146 rfl rfl rfl g171 (rpv 146 rfl rfl rfl g171 (rpv 146 rfl rfl rfl g171 ?_))))
        exact rpv 146 rfl rfl rfl g171 (rd_v rfl (v_pick_t rfl g171 rfl) (hJ170 _ () h _ (ji 7 153 rfl rfl rfl)))
       ·
        refine rvt 146 rfl rfl rfl g171 (v_move rfl) (cal_inv h fun y172 hy172 h => rvt 146 rfl rfl rfl g171 (v_ix (l := q2) rfl (fun _ _ h => h) rfl sl42 hy172) (rvt 146 rfl rfl rfl g171 (v_loadI ty5 rfl) (rvt 146 rfl rfl rfl g171 (v_fi rfl GAcc.f0 fd61_0 rfl (z := (tab2 (shr8 (tab1 y99) (4 : UInt64).toNat)).lo)) ?_)))
        exact rvt 146 rfl rfl rfl g171 (v_loadI ty5 rfl) (rvt 146 rfl rfl rfl g171 (v_lss8 rfl rfl) (rd_v rfl (v_pick_f rfl g171 rfl) (hJ170 _ () h _ (ji 7 153 rfl rfl rfl))))
     ·
      refine wsr (oA rfl (rnf (w_ret (ret_block ?_))))
      refine ret_block (rL3 _ (ret_block (ret_nxt (ret_post (.tmp rfl .nil) .nil ?_))))
      obtain rfl := Option.some.inj h
      exact ⟨rfl, rfl⟩
 ·
  refine w_exit (exi_nxt (eL3 _ _ (exi_block (fin_nxt ?_))))
  refine wsr (oA rfl (rnf (w_ret (ret_post (.tmp rfl .nil) .nil ?_))))
  obtain rfl := Option.some.inj h
  exact ⟨rfl, rfl⟩


theorem lex_lexer_text_w : ∀ {a_l : GLex} {b_a_l : Nat} {r : Int × Str × GLex}, lex_lexer_text a_l = some r → Ctr Tryd.prog 35 [ptrv b_a_l (Fld.id GLex)] [boxE b_a_l (a_l : GLex)] (fun R H => R = oneOf [isv (r.1), isv (r.2.1)] ∧ H = [boxE b_a_l (r.2.2)]) := by
 intro a_l b_a_l r h
 unfold lex_lexer_text at h
 refine spec_intro Tryd.func35 rfl (by decide +kernel) (by rfl) fun w0 S0 hT => ?_
 refine wsr (oA rfl (oA rfl (rnf (wsr ?_))))
 refine oA rfl (rnf (w_seq (wsr (oM rfl ?_))))
 refine oV (v_nilCheck rfl) (oV (v_fa rfl GLex.f0 fd48_0) (oV (v_fa rfl GLrd.f1 fd46_1) (oT (t_loadC (R := isv (a_l.reader.at_)) ty3 rfl .here (fun _ _ h => h) (ck_inv h fun q1 h => ?_)))))
 refine oV (v_add rfl rfl q1) (oV (v_nilCheck rfl) (oV (v_fa rfl GLex.f0 fd48_0) (oV (v_fa rfl GLrd.f1 fd46_1) (oT (t_storeC (y' := ({ a_l with reader := { a_l.reader with at_ := (a_l.reader.at_ + (1 : Int)) } } : GLex)) ty3 rfl rfl (fun _ _ h => h) .here rfl ?_)))))
 refine rnf (w_block (w_upd (upd_tok) (w_lp (ι := (List UInt8) × GLex) (γ := Tok) (fun q2 g2 => [(0, ptrv b_a_l (Fld.id GLex)), (4, appv g2 (q2.1))]) (fun q2 g2 => [tokE g2, boxE b_a_l (q2.2 : GLex)]) h (none) (mod_cons (j := 0) rfl (fun _ _ h => h) (mod_cons (j := 4) rfl nilv_appv mod_nil)) (.cons .here (.cons .here .nil)) (fun L3 q2 g2 Q31 h hL3 eL3 rL3 => w_seq ?_))))
 refine w_seq (w_pinN 0 (.there .here) rfl (fun o17 hn18 => w_regionD (.v 0 (.v 1 (.v 2 (.v 3 (.v 4 (.v 5 (.v 6 (.v 7 (.v 8 (.v 9 (.v 10 (.v 11 .nil)))))))))))) moOrd (by kernel_rfl) ?_))
 refine rvm rfl rfl (rd_v rfl (v_nilCheckP rfl) (rd_v rfl (v_fp rfl GLex.f0 fd48_0) (rd_v rfl (v_fp rfl GLrd.f1 fd46_1) (rd_v rfl (v_lpC (R := isv (q2.2.reader.at_)) ty3 rfl (List.Mem.head _) (fun _ _ h => h)) ?_))))
 refine rvm rfl rfl (rd_v rfl (v_nilCheckP rfl) (rd_v rfl (v_fp rfl GLex.f0 fd48_0) (rd_v rfl (v_fp rfl GLrd.f0 fd46_0) (rd_v rfl (v_lpC (R := isv (q2.2.reader.s)) ty9 rfl (List.Mem.head _) (fun _ _ h => h)) ?_))))
 refine rd_v rfl (v_lenS st9 rfl) (rd_v rfl (v_lss rfl rfl) (rd_nil (fin_unpinN 0 hn18 rfl (fin_nxt ?_))))
 refine w_condM h rfl (fun _ h => ?_) (fun _ h => ?_)
 ·
  refine wkf (w_seq (w_block (w_seq (wsr ?_))))
  refine oM rfl (oV (v_nilCheck rfl) (oV (v_fa rfl GLex.f0 fd48_0) (cal_inv h fun y19 hy19 h => oT (t_call (lex_reader_peek_w hy19) hT (.same rfl (.same rfl .nil)) (.cons .here .nil) (fun R H' hR => ?_)))))
  obtain ⟨rfl, rfl⟩ := hR
  refine oV (v_eqA eq5 rfl rfl) (rnf (w_J (ι := GLex) (γ := Unit) (fun q20 g20 => []) (fun q20 g20 => [boxE b_a_l (q20 : GLex)]) (.cons .here .nil) h (fun q20 g20 h => ?_) (fun J21 h hJ21 => ?_)))
  ·
   refine w_region (oM rfl (oM rfl (oV (v_nilCheck rfl) (oV (v_fa rfl GLex.f0 fd48_0) ?_))))
   refine cal_inv h fun y25 hy25 h => oT (t_call (lex_reader_peek_w hy25) hT (.same rfl (.same rfl .nil)) (.cons .here .nil) (fun R H' hR => ?_))
   obtain ⟨rfl, rfl⟩ := hR
   refine oT (t_buildSlice (l := ([y25.1] : (List UInt8))) el42 (.cons rfl (fun _ _ h => h) .nil) rfl rfl (asr_inv h fun q28 h => oT (t_appC (l := q2.1) (m := ([y25.1] : (List UInt8))) ap42_42 rfl (fun _ _ h => h) rfl appv_isv (.there .here) q28 fun t27 => oA rfl (rl_nil ?_))))
   refine fin_block (fin_nxt (w_region (oM rfl (oV (v_nilCheck rfl) ?_))))
   refine oV (v_fa rfl GLex.f0 fd48_0) (oV (v_fa rfl GLrd.f1 fd46_1) (oT (t_loadC (R := isv (y25.2.reader.at_)) ty3 rfl (.there .here) (fun _ _ h => h) (ck_inv h fun q29 h => oV (v_add rfl rfl q29) ?_))))
   refine oV (v_nilCheck rfl) (oV (v_fa rfl GLex.f0 fd48_0) (oV (v_fa rfl GLrd.f1 fd46_1) (oT (t_storeC (y' := ({ y25.2 with reader := { y25.2.reader with at_ := (y25.2.reader.at_ + (1 : Int)) } } : GLex)) ty3 rfl rfl (fun _ _ h => h) (.there .here) rfl (rl_nil ?_)))))
   exact hL3 _ (t27) h _ (join_imp 38 rfl rfl (mod_cons (j := 0) rfl (fun _ _ h => h) (mod_cons (j := 4) rfl (fun _ _ h => h) mod_nil)) (.cons (.there .here) (.cons .here .nil)))
  ·
   refine w_condM h rfl (fun _ h => ?_) (fun _ h => ?_)
   ·
    refine wsr (oM rfl (oV (v_nilCheck rfl) (oV (v_fa rfl GLex.f0 fd48_0) (oV (v_fa rfl GLrd.f1 fd46_1) ?_))))
    refine oT (t_loadC (R := isv (y19.2.reader.at_)) ty3 rfl .here (fun _ _ h => h) (ck_inv h fun q22 h => oV (v_add rfl rfl q22) (oV (v_nilCheck rfl) (oV (v_fa rfl GLex.f0 fd48_0) ?_))))
    refine oV (v_fa rfl GLrd.f1 fd46_1) (oT (t_storeC (y' := ({ y19.2 with reader := { y19.2.reader with at_ := (y19.2.reader.at_ + (1 : Int)) } } : GLex)) ty3 rfl rfl (fun _ _ h => h) .here rfl (rnf (wsr (oM rfl ?_)))))
    refine oV (v_nilCheck rfl) (oV (v_fa rfl GLex.f0 fd48_0) (cal_inv h fun y23 hy23 h => oT (t_call (lex_reader_peek_w hy23) hT (.same rfl (.same rfl .nil)) (.cons .here .nil) (fun R H' hR => ?_))))
    obtain ⟨rfl, rfl⟩ := hR
    refine oV (v_neA eq5 rfl rfl) (rnf (w_condM h rfl (fun _ h => ?_) (fun _ h => ?_)))
    ·
     refine w_seq (wsr (oM rfl (cal_inv h fun y24 hy24 h => oT (t_call (utf8_Valid_w hy24) hT (.cons rfl appv_isv .nil) .nil (fun R H' hR => ?_)))))
     obtain ⟨rfl, rfl⟩ := hR
     refine oV (v_not rfl) (rnf (w_condM h rfl (fun _ h => ?_) (fun _ h => ?_)))
     ·
      refine wsr (oA rfl (oA rfl (rnf (w_ret ?_))))
      refine ret_nxt (ret_nxt (ret_block (ret_nxt (rL3 _ ?_))))
      refine ret_block (ret_nxt (ret_post (.tmp rfl (.tmp rfl .nil)) (.cons .here .nil) ?_))
      obtain rfl := Option.some.inj h
      exact ⟨rfl, rfl⟩
     ·
      refine wkf (w_seq (w_regionD (.v 0 (.v 1 (.v 2 (.v 3 .nil)))) moOrd (by kernel_rfl) ?_))
      refine rvm rfl rfl (rd_v rfl (v_bs (l := q2.1) Tryd.underlying42 Tryd.underlying5 Tryd.underlying9 rfl appv_isv) (rd_v rfl (v_assign rfl) (rd_v rfl (v_assign rfl) (rd_nil ?_))))
      refine fin_nxt (w_ret (ret_nxt (ret_block (ret_nxt ?_))))
      refine rL3 _ (ret_block (ret_nxt (ret_post (.tmp rfl (.tmp rfl .nil)) (.cons .here .nil) ?_)))
      obtain rfl := Option.some.inj h
      exact ⟨rfl, rfl⟩
    ·
     exact w_skip (hJ21 _ () h _ (join_imp 14 rfl rfl mod_nil (.cons .here (.cons .here .nil))))
   ·
    exact w_skip (hJ21 _ () h _ (join_imp 0 rfl rfl mod_nil (.cons .here (.cons .here .nil))))
 ·
  refine w_exit (exi_nxt (eL3 _ _ (exi_block (fin_nxt ?_))))
  refine wsr (oA rfl (oA rfl (rnf (w_ret ?_))))
  refine ret_post (.tmp rfl (.tmp rfl .nil)) (.cons .here .nil) ?_
  obtain rfl := Option.some.inj h
  exact ⟨rfl, rfl⟩

end Go.Proofs.YtbinnmophpfmlaaDoor


namespace Go.Proofs.YtbinnmophpfmlaaDoor
open Go.Sy
set_option maxRecDepth 4000
theorem lex_lexer_sign_w : ∀ {a_l : GLex} {b_a_l : Nat} {r : Int × Str × GLex}, lex_lexer_sign a_l = some r → Ctr Tryd.prog 36 [ptrv b_a_l (Fld.id GLex)] [boxE b_a_l (a_l : GLex)] (fun R H => R = oneOf [isv (r.1), isv (r.2.1)] ∧ H = [boxE b_a_l (r.2.2)]) := by
 intro a_l b_a_l r h
 unfold lex_lexer_sign at h
 refine spec_intro Tryd.func36 rfl (by decide +kernel) (by rfl) fun w0 S0 hT => ?_
 refine wsr (oA rfl (oA rfl (rnf (w_seq ?_))))
 refine wsr (oT (t_buildSlice (l := ([(Str.mk [58, 58, 61]), (Str.mk [46, 46, 46]), (Str.mk [46, 46]), (Str.mk [91, 91]), (Str.mk [93, 93]), (Str.mk [123]), (Str.mk [125]), (Str.mk [91]), (Str.mk [93]), (Str.mk [40]), (Str.mk [41]), (Str.mk [44]), (Str.mk [58])] : (List Str))) el36 (.cons rfl (fun _ _ h => h) (.cons rfl (fun _ _ h => h) (.cons rfl (fun _ _ h => h) (.cons rfl (fun _ _ h => h) (.cons rfl (fun _ _ h => h) (.cons rfl (fun _ _ h => h) (.cons rfl (fun _ _ h => h) (.cons rfl (fun _ _ h => h) (.cons rfl (fun _ _ h => h) (.cons rfl (fun _ _ h => h) (.cons rfl (fun _ _ h => h) (.cons rfl (fun _ _ h => h) (.cons rfl (fun _ _ h => h) .nil))))))))))))) rfl rfl ?_))
 refine oV (v_ln (l := ([(Str.mk [58, 58, 61]), (Str.mk [46, 46, 46]), (Str.mk [46, 46]), (Str.mk [91, 91]), (Str.mk [93, 93]), (Str.mk [123]), (Str.mk [125]), (Str.mk [91]), (Str.mk [93]), (Str.mk [40]), (Str.mk [41]), (Str.mk [44]), (Str.mk [58])] : (List Str))) rfl appv_isv sl36) (oM rfl (rnf (w_block (w_lp (ι := Int × GLex) (γ := Unit) (fun q2 g2 => [(8, isv (q2.1))]) (fun q2 g2 => [boxE b_a_l (q2.2 : GLex)]) h () (mod_cons (j := 8) rfl (fun _ _ h => h) mod_nil) (.cons .here .nil) (fun L3 q2 g2 Q12 h hL3 eL3 rL3 => ?_)))))
 refine wsr (oV (v_lss rfl rfl) (rnf (w_seq (w_condM h rfl (fun _ h => ?_) (fun _ h => ?_)))))
 ·
  refine wkf (w_seq (w_block (wsr (cal_inv h fun y8 hy8 h => ?_))))
  refine oV (v_ix (l := ([(Str.mk [58, 58, 61]), (Str.mk [46, 46, 46]), (Str.mk [46, 46]), (Str.mk [91, 91]), (Str.mk [93, 93]), (Str.mk [123]), (Str.mk [125]), (Str.mk [91]), (Str.mk [93]), (Str.mk [40]), (Str.mk [41]), (Str.mk [44]), (Str.mk [58])] : (List Str))) rfl appv_isv rfl sl36 hy8) (oV (v_loadI ty9 rfl) (oA rfl (rnf (wsr ?_))))
  refine oM rfl (oV (v_nilCheck rfl) (oV (v_fa rfl GLex.f0 fd48_0) (oM rfl (cal_inv h fun y9 hy9 h => ?_))))
  refine oT (t_call (lex_reader_ahead_w hy9) hT (.same rfl (.same rfl .nil)) (.cons .here .nil) (fun R H' hR => ?_))
  obtain ⟨rfl, rfl⟩ := hR
  refine rnf (w_condM h rfl (fun _ h => ?_) (fun _ h => ?_))
  ·
   refine wsr (oM rfl (oV (v_nilCheck rfl) (oV (v_fa rfl GLex.f0 fd48_0) (oV (v_fa rfl GLrd.f1 fd46_1) ?_))))
   refine oT (t_loadC (R := isv (y9.2.reader.at_)) ty3 rfl .here (fun _ _ h => h) (oM rfl (oV (v_lenS st9 rfl) (ck_inv h fun q10 h => oV (v_add rfl rfl q10) ?_))))
   refine oV (v_nilCheck rfl) (oV (v_fa rfl GLex.f0 fd48_0) (oV (v_fa rfl GLrd.f1 fd46_1) (oT (t_storeC (y' := ({ y9.2 with reader := { y9.2.reader with at_ := (y9.2.reader.at_ + (y8.b.length : Int)) } } : GLex)) ty3 rfl rfl (fun _ _ h => h) .here rfl (rnf ?_)))))
   refine wsr (oM rfl (oA rfl (oA rfl (rnf ?_))))
   refine w_ret (ret_block (ret_nxt (rL3 _ (ret_block ?_))))
   refine ret_nxt (ret_post (.tmp rfl (.tmp rfl .nil)) (.cons .here .nil) ?_)
   obtain rfl := Option.some.inj h
   exact ⟨rfl, rfl⟩
  ·
   refine w_skip (fin_block (fin_nxt (w_region (ck_inv h fun q11 h => ?_))))
   exact oV (v_add rfl rfl q11) (oM rfl (rl_nil (hL3 _ () h _ (join_imp 12 rfl rfl (mod_cons (j := 8) rfl (fun _ _ h => h) mod_nil) (.cons .here .nil)))))
 ·
  refine w_exit (exi_nxt (eL3 _ _ (exi_block (fin_nxt ?_))))
  refine wsr (oA rfl (oA rfl (rnf (w_ret ?_))))
  refine ret_post (.tmp rfl (.tmp rfl .nil)) (.cons .here .nil) ?_
  obtain rfl := Option.some.inj h
  exact ⟨rfl, rfl⟩


theorem lex_lexer_token_w : ∀ {a_l : GLex} {b_a_l : Nat} {r : Int × Str × GLex}, lex_lexer_token a_l = some r → Ctr Tryd.prog 20 [ptrv b_a_l (Fld.id GLex)] [boxE b_a_l (a_l : GLex)] (fun R H => R = oneOf [isv (r.1), isv (r.2.1)] ∧ H = [boxE b_a_l (r.2.2)]) := by
 intro a_l b_a_l r h
 unfold lex_lexer_token at h
 refine spec_intro Tryd.func20 rfl (by decide +kernel) (by rfl) fun w0 S0 hT => ?_
 refine wsr (oA rfl (oA rfl (rnf (w_seq ?_))))
 refine wsr (oM rfl (oV (v_nilCheck rfl) (oV (v_fa rfl GLex.f0 fd48_0) (cal_inv h fun y1 hy1 h => ?_))))
 refine oT (t_call (lex_reader_peek_w hy1) hT (.same rfl (.same rfl .nil)) (.cons .here .nil) (fun R H' hR => ?_))
 obtain ⟨rfl, rfl⟩ := hR
 refine oA rfl (rnf (w_block (wsr (oM rfl ?_))))
 refine cal_inv h fun y2 hy2 h => oT (t_call (lex_letter_w hy2) hT (.same rfl .nil) .nil (fun R H' hR => ?_))
 obtain ⟨rfl, rfl⟩ := hR
 refine oA rfl (rnf (w_condM h rfl (fun _ h => ?_) (fun _ h => ?_)))
 ·
  refine wsr (oM rfl (cal_inv h fun y3 hy3 h => oT (t_call (lex_lexer_name_w hy3) hT (.same rfl .nil) (.cons .here .nil) (fun R H' hR => ?_))))
  obtain ⟨rfl, rfl⟩ := hR
  refine oV (v_extract rfl rfl) (oV (v_extract rfl rfl) (oA rfl (oA rfl (rnf ?_))))
  refine w_ret (ret_block (ret_nxt (ret_post (.tmp rfl (.tmp rfl .nil)) (.cons .here .nil) ?_)))
  obtain rfl := Option.some.inj h
  exact ⟨rfl, rfl⟩
 ·
  refine wsr (oM rfl (cal_inv h fun y4 hy4 h => oT (t_call (lex_digit_w hy4) hT (.same rfl .nil) .nil (fun R H' hR => ?_))))
  obtain ⟨rfl, rfl⟩ := hR
  refine oM rfl (rl_j (ι := Bool × GLex) (γ := Unit) (fun q5 g5 => [(29, isv (q5.1))]) (fun q5 g5 => [boxE b_a_l (q5.2 : GLex)]) (.cons .here .nil) h 10 rfl (fun q5 g5 h => ?_) (fun J6 h hJ6 => ?_))
  ·
   refine oA rfl (rnf (w_condM h rfl (fun _ h => ?_) (fun _ h => ?_)))
   ·
    refine wsr (oM rfl (cal_inv h fun y13 hy13 h => oT (t_call (lex_lexer_number_w hy13) hT (.same rfl .nil) (.cons .here .nil) (fun R H' hR => ?_))))
    obtain ⟨rfl, rfl⟩ := hR
    refine oV (v_extract rfl rfl) (oV (v_extract rfl rfl) (oA rfl (oA rfl (rnf ?_))))
    refine w_ret (ret_block (ret_nxt (ret_post (.tmp rfl (.tmp rfl .nil)) (.cons .here .nil) ?_)))
    obtain rfl := Option.some.inj h
    exact ⟨rfl, rfl⟩
   ·
    refine wsr (oM rfl (oV (v_eqA eq5 rfl rfl) (oA rfl (rnf ?_))))
    refine w_condM h rfl (fun _ h => ?_) (fun _ h => ?_)
    ·
     refine wsr (oM rfl (cal_inv h fun y14 hy14 h => oT (t_call (lex_lexer_hex_w hy14) hT (.same rfl .nil) (.cons .here .nil) (fun R H' hR => ?_))))
     obtain ⟨rfl, rfl⟩ := hR
     refine oV (v_extract rfl rfl) (oV (v_extract rfl rfl) (oA rfl (oA rfl (rnf ?_))))
     refine w_ret (ret_block (ret_nxt (ret_post (.tmp rfl (.tmp rfl .nil)) (.cons .here .nil) ?_)))
     obtain rfl := Option.some.inj h
     exact ⟨rfl, rfl⟩
    ·
     refine wsr (oM rfl (oV (v_eqA eq5 rfl rfl) (oA rfl (rnf ?_))))
     refine w_condM h rfl (fun _ h => ?_) (fun _ h => ?_)
     ·
      refine wsr (oM rfl (cal_inv h fun y15 hy15 h => oT (t_call (lex_lexer_text_w hy15) hT (.same rfl .nil) (.cons .here .nil) (fun R H' hR => ?_))))
      obtain ⟨rfl, rfl⟩ := hR
      refine oV (v_extract rfl rfl) (oV (v_extract rfl rfl) (oA rfl (oA rfl (rnf ?_))))
      refine w_ret (ret_block (ret_nxt (ret_post (.tmp rfl (.tmp rfl .nil)) (.cons .here .nil) ?_)))
      obtain rfl := Option.some.inj h
      exact ⟨rfl, rfl⟩
     ·
      refine w_skip (fin_block (fin_nxt (wsr (oM rfl ?_))))
      refine cal_inv h fun y16 hy16 h => oT (t_call (lex_lexer_sign_w hy16) hT (.same rfl .nil) (.cons .here .nil) (fun R H' hR => ?_))
      obtain ⟨rfl, rfl⟩ := hR
      refine oV (v_extract rfl rfl) (oV (v_extract rfl rfl) (oA rfl (oA rfl (rnf ?_))))
      refine w_ret (ret_post (.tmp rfl (.tmp rfl .nil)) (.cons .here .nil) ?_)
      obtain rfl := Option.some.inj h
      exact ⟨rfl, rfl⟩
  ·
   refine rl_condM (j := 19) h rfl (fun g7 h => ?_) (fun g7 h => ?_)
   ·
    refine oP 19 rfl rfl g7 (oP 19 rfl rfl g7 (oP 19 rfl rfl g7 (op_passU rfl (dj := 22) rfl (op_passU rfl (dj := 22) rfl ?_))))
    refine op_passU rfl (dj := 22) rfl (op_passU rfl (dj := 22) rfl (op_passU rfl (dj := 22) rfl (oP 19 rfl rfl g7 (oV (v_pick_t rfl g7 rfl) ?_))))
    exact hJ6 _ () h _ (join_imp 10 rfl rfl (mod_cons (j := 29) rfl (fun _ _ h => h) mod_nil) (.cons .here .nil))
   ·
    refine oK 19 rfl rfl rfl g7 (v_move rfl) (oK 19 rfl rfl rfl g7 (v_eqA eq5 rfl rfl) (oK 19 rfl rfl rfl g7 (v_move rfl) (rl_j (ι := Bool × GLex) (γ := Unit) (fun q8 g8 => [(28, isv (q8.1))]) (fun q8 g8 => [boxE b_a_l (q8.2 : GLex)]) (.cons .here .nil) h 6 rfl (fun q8 g8 h => ?_) (fun J9 h hJ9 => ?_))))
    ·
     exact oV (v_pick_f rfl g7 rfl) (hJ6 _ () h _ (join_imp 5 rfl rfl (mod_cons (j := 29) rfl (fun _ _ h => h) mod_nil) (.cons .here .nil)))
    ·
     refine rl_condM (j := 22) h rfl (fun g10 h => ?_) (fun g10 h => ?_)
     ·
      refine oK 22 rfl rfl rfl g10 (v_move rfl) (oK 22 rfl rfl rfl g10 (v_nilCheck rfl) (oK 22 rfl rfl rfl g10 (v_fa rfl GLex.f0 fd48_0) (cal_inv h fun y11 hy11 h => op_take rfl rfl (dj := 22) rfl g10 (t_call (lex_reader_peek_w hy11) hT (.same rfl (.same rfl .nil)) (.cons .here .nil) (fun R H' hR => ?_)))))
      obtain ⟨rfl, rfl⟩ := hR
      refine cal_inv h fun y12 hy12 h => op_take rfl rfl (dj := 22) rfl g10 (t_call (lex_digit_w hy12) hT (.same rfl .nil) .nil (fun R H' hR => ?_))
      obtain ⟨rfl, rfl⟩ := hR
      exact oK 19 rfl rfl rfl g7 (v_pick_t rfl g10 rfl) (hJ9 _ () h _ (join_imp 6 rfl rfl (mod_cons (j := 28) rfl (fun _ _ h => h) mod_nil) (.cons .here .nil)))
     ·
      refine oP 22 rfl rfl g10 (oP 22 rfl rfl g10 (oP 22 rfl rfl g10 (oP 22 rfl rfl g10 (oP 22 rfl rfl g10 ?_))))
      exact oK 19 rfl rfl rfl g7 (v_pick_f rfl g10 rfl) (hJ9 _ () h _ (join_imp 6 rfl rfl (mod_cons (j := 28) rfl (fun _ _ h => h) mod_nil) (.cons .here .nil)))


theorem lex_Tokens_w : ∀ {a_text : Str} {r : (List GTok) × Int × Int}, lex_Tokens a_text = some r → Ctr Tryd.prog 10 [isv (a_text)] [] (fun R H => R = oneOf [isv (r.1), isv (r.2.1), isv (r.2.2)] ∧ H = []) := by
 intro a_text r h
 unfold lex_Tokens at h
 refine spec_intro Tryd.func10 rfl (by decide +kernel) (by rfl) fun w0 S0 hT => ?_
 refine wsr (oA rfl (oA rfl (oA rfl (rnf ?_))))
 refine w_seq (wsr (oM rfl (oV (v_lenS st9 rfl) (oV (v_gtr rfl rfl) ?_))))
 refine rnf (w_condM h rfl (fun _ h => ?_) (fun _ h => ?_))
 ·
  refine wsr (oA rfl (oA rfl (oA rfl (rnf ?_))))
  refine w_ret (ret_nxt (ret_post (.as rfl (nilv_isv (α := GTok)) (.tmp rfl (.tmp rfl .nil))) .nil ?_))
  obtain rfl := Option.some.inj h
  exact ⟨rfl, rfl⟩
 ·
  refine wkf (wsr (oM rfl (oV (v_build (z := (GLrd.mk a_text (0 : Int))) rfl bu46 ze46 (.cons GLrd.f0 fd46_0 rfl (fun _ _ h => h) .nil)) (oV (v_build (z := (GLex.mk (GLrd.mk a_text (0 : Int)))) rfl bu48 ze48 (.cons GLex.f0 fd48_0 rfl (fun _ _ h => h) .nil)) ?_))))
  refine oT (t_boxC (y := (GLex.mk (GLrd.mk a_text (0 : Int)))) rfl (fun _ _ h => h) fun b1 => oA rfl (rnf (wsr (oA rfl ?_))))
  refine rnf (w_seq (wsr (oM rfl (oV (v_nilCheck rfl) ?_))))
  refine oV (v_fa rfl GLex.f0 fd48_0) (cal_inv h fun y2 hy2 h => oT (t_call (lex_reader_skip_w hy2) hT (.same rfl .nil) (.cons .here .nil) (fun R H' hR => ?_)))
  obtain ⟨rfl, rfl⟩ := hR
  refine rnf (w_block (w_upd (upd_tok) (w_lp (ι := (List GTok) × GLex) (γ := Tok) (fun q3 g3 => [(6, appv g3 (q3.1))]) (fun q3 g3 => [tokE g3, boxE b1 (q3.2 : GLex)]) h (none) (mod_cons (j := 6) rfl nilv_appv mod_nil) (.cons .here (.cons .here .nil)) (fun L4 q3 g3 Q22 h hL4 eL4 rL4 => w_seq ?_))))
  refine wsr (oM rfl (oV (v_nilCheck rfl) (oV (v_fa rfl GLex.f0 fd48_0) (oV (v_fa rfl GLrd.f1 fd46_1) ?_))))
  refine oT (t_loadC (R := isv (q3.2.reader.at_)) ty3 rfl (.there .here) (fun _ _ h => h) (oM rfl (oV (v_lenS st9 rfl) (oV (v_lss rfl rfl) (rnf ?_)))))
  refine w_condM h rfl (fun _ h => ?_) (fun _ h => ?_)
  ·
   refine wkf (w_seq (w_block (wsr (oM rfl ?_))))
   refine oV (v_nilCheck rfl) (oV (v_fa rfl GLex.f0 fd48_0) (oV (v_fa rfl GLrd.f1 fd46_1) (oT (t_loadC (R := isv (q3.2.reader.at_)) ty3 rfl (.there .here) (fun _ _ h => h) (oA rfl ?_)))))
   refine rnf (wsr (oM rfl (cal_inv h fun y13 hy13 h => oT (t_call (lex_lexer_token_w hy13) hT (.same rfl .nil) (.cons (.there .here) .nil) (fun R H' hR => ?_)))))
   obtain ⟨rfl, rfl⟩ := hR
   refine oM rfl (oV (v_extract rfl rfl) (oV (v_extract rfl rfl) (oA rfl (oA rfl ?_))))
   refine rnf (w_seq (wsr (oM rfl (oV (v_eql rfl rfl) ?_))))
   refine rnf (w_condM h rfl (fun _ h => ?_) (fun _ h => ?_))
   ·
    refine wsr (oM rfl (oA rfl (oA rfl (oA rfl ?_))))
    refine rnf (w_ret (ret_nxt (ret_block (ret_nxt ?_))))
    refine rL4 _ (ret_block (ret_nxt (ret_post (.as rfl (nilv_isv (α := GTok)) (.tmp rfl (.tmp rfl .nil))) .nil ?_)))
    obtain rfl := Option.some.inj h
    exact ⟨rfl, rfl⟩
   ·
    refine wkf (w_region (oM rfl (oM rfl (oM rfl ?_))))
    refine oM rfl (oV (v_build (z := (GTok.mk y13.1 y13.2.1 q3.2.reader.at_)) rfl bu28 ze28 (.cons GTok.f0 fd28_0 rfl (fun _ _ h => h) (.cons GTok.f1 fd28_1 rfl (fun _ _ h => h) (.cons GTok.f2 fd28_2 rfl (fun _ _ h => h) .nil)))) (oT (t_buildSlice (l := ([(GTok.mk y13.1 y13.2.1 q3.2.reader.at_)] : (List GTok))) el23 (.cons rfl (fun _ _ h => h) .nil) rfl rfl (asr_inv h fun q16 h => oT (t_appC (l := q3.1) (m := ([(GTok.mk y13.1 y13.2.1 q3.2.reader.at_)] : (List GTok))) ap23_23 rfl (fun _ _ h => h) rfl appv_isv (.there .here) q16 fun t15 => ?_)))))
    refine oA rfl (rl_nil (fin_block (fin_nxt (w_region ?_))))
    refine oM rfl (oV (v_nilCheck rfl) (oV (v_fa rfl GLex.f0 fd48_0) (cal_inv h fun y17 hy17 h => oT (t_call (lex_reader_skip_w hy17) hT (.same rfl .nil) (.cons (.there .here) .nil) (fun R H' hR => ?_)))))
    obtain ⟨rfl, rfl⟩ := hR
    exact rl_nil (hL4 _ (t15) h _ (join_imp 36 rfl rfl (mod_cons (j := 6) rfl (fun _ _ h => h) mod_nil) (.cons (.there .here) (.cons .here .nil))))
  ·
   refine w_exit (exi_nxt (eL4 _ _ (exi_block (fin_nxt ?_))))
   refine wsr (oM rfl (oM rfl (oV (v_lenS st9 rfl) (oV (v_build (z := (GTok.mk (0 : Int) (Str.mk []) (a_text.b.length : Int))) rfl bu28 ze28 (.cons GTok.f2 fd28_2 rfl (fun _ _ h => h) .nil)) ?_))))
   refine oT (t_buildSlice (l := ([(GTok.mk (0 : Int) (Str.mk []) (a_text.b.length : Int))] : (List GTok))) el23 (.cons rfl (fun _ _ h => h) .nil) rfl rfl (asr_inv h fun q20 h => oT (t_appC (l := q3.1) (m := ([(GTok.mk (0 : Int) (Str.mk []) (a_text.b.length : Int))] : (List GTok))) ap23_23 rfl (fun _ _ h => h) rfl appv_isv .here q20 fun t19 => oA rfl (oA rfl ?_))))
   refine oA rfl (rnf (w_ret (ret_post (.as rfl appv_isv (.tmp rfl (.tmp rfl .nil))) .nil ?_)))
   obtain rfl := Option.some.inj h
   exact ⟨rfl, rfl⟩

end Go.Proofs.YtbinnmophpfmlaaDoor


namespace Go.Proofs.YtbinnmophpfmlaaDoor
open Go.Sy
set_option maxRecDepth 4000
theorem law04_awake_w : ∀  {r : Bool}, law04_awake  = some r → Ctr Tryd.prog 9 [] [] (fun R H => R = oneOf [isv (r)] ∧ H = []) := by
 intro  r h
 unfold law04_awake at h
 refine spec_intro Tryd.func9 rfl (by decide +kernel) (by rfl) fun w0 S0 hT => ?_
 refine wsr (oA rfl (rnf (wsr (cal_inv h fun y1 hy1 h => ?_))))
 refine oT (t_call (lex_Tokens_w hy1) hT (.same rfl .nil) .nil (fun R H' hR => ?_))
 obtain ⟨rfl, rfl⟩ := hR
 refine oM rfl (oV (v_extract rfl rfl) (oV (v_extract rfl rfl) (oV (v_extract rfl rfl) (oA rfl ?_))))
 refine oA rfl (oA rfl (rnf (wsr (oM rfl ?_))))
 refine oV (v_eql rfl rfl) (oM rfl (rl_j (jb 15) je .nil h 4 rfl (fun q2 g2 h => ?_) (fun J3 h hJ3 => ?_)))
 ·
  refine oM rfl (rl_j (jb 22) je .nil h 6 rfl (fun q5 g5 h => ?_) (fun J6 h hJ6 => ?_))
  ·
   refine oM rfl (rl_j (jb 29) je .nil h 6 rfl (fun q9 g9 h => ?_) (fun J10 h hJ10 => ?_))
   ·
    refine oM rfl (rl_j (jb 32) je .nil h 2 rfl (fun q13 g13 h => ?_) (fun J14 h hJ14 => ?_))
    ·
     refine oA rfl (rnf (w_ret (ret_post (.tmp rfl .nil) .nil ?_)))
     obtain rfl := Option.some.inj h
     exact ⟨rfl, rfl⟩
    ·
     refine rl_condM (j := 30) h rfl (fun g15 h => ?_) (fun g15 h => ?_)
     ·
      refine cal_inv h fun y16 hy16 h => op_take rfl rfl (dj := 30) rfl g15 (t_call (lex_Word_w hy16) hT (.same rfl .nil) .nil (fun R H' hR => ?_))
      obtain ⟨rfl, rfl⟩ := hR
      exact oV (v_pick_t rfl g15 rfl) (hJ14 _ () h _ (ji 2 32 rfl rfl rfl))
     ·
      exact oP 30 rfl rfl g15 (oV (v_pick_f rfl g15 rfl) (hJ14 _ () h _ (ji 2 32 rfl rfl rfl)))
   ·
    refine rl_condM (j := 23) h rfl (fun g11 h => ?_) (fun g11 h => ?_)
    ·
     refine oK 23 rfl rfl rfl g11 (v_move rfl) (cal_inv h fun y12 hy12 h => oK 23 rfl rfl rfl g11 (v_ix (l := y1.1) rfl (fun _ _ h => h) rfl sl23 hy12) (oK 23 rfl rfl rfl g11 (v_fi rfl GTok.f2 fd28_2 rfl (z := y12.at_)) (oK 23 rfl rfl rfl g11 (v_loadI ty3 rfl) ?_)))
     exact oK 23 rfl rfl rfl g11 (v_eql rfl rfl) (oV (v_pick_t rfl g11 rfl) (hJ10 _ () h _ (ji 6 29 rfl rfl rfl)))
    ·
     refine oP 23 rfl rfl g11 (oP 23 rfl rfl g11 (oP 23 rfl rfl g11 (oP 23 rfl rfl g11 (oP 23 rfl rfl g11 ?_))))
     exact oV (v_pick_f rfl g11 rfl) (hJ10 _ () h _ (ji 6 29 rfl rfl rfl))
  ·
   refine rl_condM (j := 16) h rfl (fun g7 h => ?_) (fun g7 h => ?_)
   ·
    refine oK 16 rfl rfl rfl g7 (v_move rfl) (cal_inv h fun y8 hy8 h => oK 16 rfl rfl rfl g7 (v_ix (l := y1.1) rfl (fun _ _ h => h) rfl sl23 hy8) (oK 16 rfl rfl rfl g7 (v_fi rfl GTok.f1 fd28_1 rfl (z := y8.text)) (oK 16 rfl rfl rfl g7 (v_loadI ty9 rfl) ?_)))
    exact oK 16 rfl rfl rfl g7 (v_eqA eq9 rfl rfl) (oV (v_pick_t rfl g7 rfl) (hJ6 _ () h _ (ji 6 22 rfl rfl rfl)))
   ·
    refine oP 16 rfl rfl g7 (oP 16 rfl rfl g7 (oP 16 rfl rfl g7 (oP 16 rfl rfl g7 (oP 16 rfl rfl g7 ?_))))
    exact oV (v_pick_f rfl g7 rfl) (hJ6 _ () h _ (ji 6 22 rfl rfl rfl))
 ·
  refine rl_condM (j := 11) h rfl (fun g4 h => ?_) (fun g4 h => ?_)
  ·
   exact oK 11 rfl rfl rfl g4 (v_move rfl) (oK 11 rfl rfl rfl g4 (v_ln (l := y1.1) rfl (fun _ _ h => h) sl23) (oK 11 rfl rfl rfl g4 (v_eql rfl rfl) (oV (v_pick_t rfl g4 rfl) (hJ3 _ () h _ (ji 4 15 rfl rfl rfl)))))
  ·
   exact oP 11 rfl rfl g4 (oP 11 rfl rfl g4 (oP 11 rfl rfl g4 (oV (v_pick_f rfl g4 rfl) (hJ3 _ () h _ (ji 4 15 rfl rfl rfl)))))

end Go.Proofs.YtbinnmophpfmlaaDoor


namespace Go.Proofs.YtbinnmophpfmlaaDoor
open Go.Sy
set_option maxRecDepth 4000
end Go.Proofs.YtbinnmophpfmlaaDoor


namespace Go.Proofs.YtbinnmophpfmlaaDoor
open Go.Sy
set_option maxRecDepth 4000
theorem law04_LexNames_w : ∀ {a_parts : (List Int)} {a_capital : Bool} {a_long : Int} {r : Bool}, law04_LexNames a_parts a_capital a_long = some r → Ctr Tryd.prog 5 [isv (a_parts), isv (a_capital), isv (a_long)] [] (fun R H => R = oneOf [isv (r)] ∧ H = []) := by
 intro a_parts a_capital a_long r h
 unfold law04_LexNames at h
 refine spec_intro Tryd.func5 rfl (by decide +kernel) (by rfl) fun w0 S0 hT => ?_
 refine wsr (oA rfl (rnf (wsr (oA rfl ?_))))
 refine rnf (w_seq (wsr (oM rfl (rnf ?_))))
 refine w_J (ι := Str) (γ := Unit) (fun q1 g1 => [(7, isv (q1))]) (fun q1 g1 => []) .nil h (fun q1 g1 h => ?_) (fun J2 h hJ2 => ?_)
 ·
  refine w_seq (wsr (oA rfl (rnf (w_block ?_))))
  refine w_lp (ι := Str × Int) (γ := Unit) (fun q3 g3 => [(7, isv (q3.1)), (8, isv (q3.2))]) (fun q3 g3 => []) h () (mod_cons (j := 7) rfl (fun _ _ h => h) (mod_cons (j := 8) rfl (fun _ _ h => h) mod_nil)) .nil (fun L4 q3 g3 Q187 h hL4 eL4 rL4 => w_seq (wsr (oM rfl (oM rfl ?_))))
  refine oV (v_ln (l := a_parts) rfl (fun _ _ h => h) sl35) (oV (v_lss rfl rfl) (oM rfl (rl_j (jb 25) je .nil h 3 rfl (fun q96 g96 h => ?_) (fun J97 h hJ97 => ?_))))
  ·
   refine rnf (w_condM h rfl (fun _ h => ?_) (fun _ h => ?_))
   ·
    refine wkf (w_seq (w_block (w_region (oM rfl ?_))))
    refine oT (t_buildSlice (l := ([(Str.mk [98]), (Str.mk [55]), (Str.mk [45, 99]), (Str.mk [90]), (Str.mk [45, 57])] : (List Str))) el36 (.cons rfl (fun _ _ h => h) (.cons rfl (fun _ _ h => h) (.cons rfl (fun _ _ h => h) (.cons rfl (fun _ _ h => h) (.cons rfl (fun _ _ h => h) .nil))))) rfl rfl (oM rfl (oM rfl (cal_inv h fun y100 hy100 h => oV (v_ix (l := a_parts) rfl (fun _ _ h => h) rfl sl35 hy100) ?_))))
    refine oV (v_loadI ty3 rfl) (oV (v_toU Tryd.underlying3 Tryd.underlying33 rfl) (asr_inv h fun q101 h => oV (v_rem64 rfl rfl q101) (ck_inv h fun q102 h => ?_)))
    refine oV (v_u64i Tryd.underlying33 Tryd.underlying3 rfl q102) (cal_inv h fun y103 hy103 h => oV (v_ix (l := ([(Str.mk [98]), (Str.mk [55]), (Str.mk [45, 99]), (Str.mk [90]), (Str.mk [45, 57])] : (List Str))) rfl appv_isv rfl sl36 hy103) (oV (v_loadI ty9 rfl) (asr_inv h fun q104 h => ?_)))
    refine oV (v_cat rfl rfl q104) (oA rfl (rl_nil (fin_block (fin_nxt ?_))))
    refine w_region (oM rfl (ck_inv h fun q105 h => oV (v_add rfl rfl q105) (oA rfl ?_)))
    exact rl_nil (hL4 _ () h _ (join_imp 24 rfl rfl (mod_cons (j := 7) rfl (fun _ _ h => h) (mod_cons (j := 8) rfl (fun _ _ h => h) mod_nil)) .nil))
   ·
    refine w_exit (exi_nxt (eL4 _ _ (exi_block (fin_nxt ?_))))
    refine w_seq (wsr (oM rfl (oV (v_toU Tryd.underlying3 Tryd.underlying33 rfl) (asr_inv h fun q106 h => ?_))))
    refine oV (v_rem64 rfl rfl q106) (ck_inv h fun q107 h => oV (v_u64i Tryd.underlying33 Tryd.underlying3 rfl q107) (oA rfl (rnf ?_)))
    refine w_block (w_lp (ι := Str × Int) (γ := Unit) (fun q108 g108 => [(7, isv (q108.1)), (9, isv (q108.2))]) (fun q108 g108 => []) h () (mod_cons (j := 7) rfl (fun _ _ h => h) (mod_cons (j := 9) rfl (fun _ _ h => h) mod_nil)) .nil (fun L109 q108 g108 Q186 h hL109 eL109 rL109 => w_seq (wsr (oM rfl ?_))))
    refine oV (v_gtr rfl rfl) (rnf (w_condM h rfl (fun _ h => ?_) (fun _ h => ?_)))
    ·
     refine wkf (w_seq (w_block (w_region (oM rfl ?_))))
     refine asr_inv h fun q148 h => oV (v_cat rfl rfl q148) (oA rfl (rl_nil (fin_block ?_)))
     refine fin_nxt (w_region (oM rfl (ck_inv h fun q149 h => oV (v_sub rfl rfl q149) ?_)))
     exact oA rfl (rl_nil (hL109 _ () h _ (join_imp 10 rfl rfl (mod_cons (j := 7) rfl (fun _ _ h => h) (mod_cons (j := 9) rfl (fun _ _ h => h) mod_nil)) .nil)))
    ·
     refine w_exit (exi_nxt (eL109 _ _ (exi_block (fin_nxt ?_))))
     refine wsr (oA rfl (rnf (w_seq (wsr ?_))))
     refine oM rfl (rnf (w_J (ι := Int) (γ := Unit) (fun q150 g150 => [(10, isv (q150))]) (fun q150 g150 => []) .nil h (fun q150 g150 h => ?_) (fun J151 h hJ151 => ?_)))
     ·
      refine wsr (oM rfl (cal_inv h fun y152 hy152 h => oT (t_call (lex_Tokens_w hy152) hT (.same rfl .nil) .nil (fun R H' hR => ?_))))
      obtain ⟨rfl, rfl⟩ := hR
      refine oM rfl (oV (v_extract rfl rfl) (oV (v_extract rfl rfl) (oV (v_extract rfl rfl) (oA rfl ?_))))
      refine oA rfl (oA rfl (rnf (wsr (oM rfl ?_))))
      refine asr_inv h fun q153 h => oV (v_cat rfl rfl q153) (asr_inv h fun q154 h => oV (v_cat rfl rfl q154) (cal_inv h fun y155 hy155 h => ?_))
      refine oT (t_call (lex_Tokens_w hy155) hT (.same rfl .nil) .nil (fun R H' hR => ?_))
      obtain ⟨rfl, rfl⟩ := hR
      refine oM rfl (oV (v_extract rfl rfl) (oV (v_extract rfl rfl) (oV (v_extract rfl rfl) (oA rfl ?_))))
      refine oA rfl (oA rfl (rnf (w_seq (wsr ?_))))
      refine oM rfl (oV (v_lenS st9 rfl) (oV (v_gtr rfl rfl) (rnf (w_condM h rfl (fun _ h => ?_) (fun _ h => ?_)))))
      ·
       refine wsr (cal_inv h fun y156 hy156 h => oT (t_call (law04_awake_w hy156) hT .nil .nil (fun R H' hR => ?_)))
       obtain ⟨rfl, rfl⟩ := hR
       refine oM rfl (rl_j (jb 72) je .nil h 3 rfl (fun q157 g157 h => ?_) (fun J158 h hJ158 => ?_))
       ·
        refine oM rfl (rl_j (jb 76) je .nil h 3 rfl (fun q160 g160 h => ?_) (fun J161 h hJ161 => ?_))
        ·
         refine oM rfl (rl_j (jb 80) je .nil h 3 rfl (fun q163 g163 h => ?_) (fun J164 h hJ164 => ?_))
         ·
          refine oM rfl (rl_j (jb 84) je .nil h 3 rfl (fun q166 g166 h => ?_) (fun J167 h hJ167 => ?_))
          ·
           refine oA rfl (rnf (w_ret (ret_nxt (ret_post (.tmp rfl .nil) .nil ?_))))
           obtain rfl := Option.some.inj h
           exact ⟨rfl, rfl⟩
          ·
           refine rl_condM (j := 81) h rfl (fun g168 h => ?_) (fun g168 h => ?_)
           ·
            exact oK 81 rfl rfl rfl g168 (v_move rfl) (oK 81 rfl rfl rfl g168 (v_eql rfl rfl) (oV (v_pick_t rfl g168 rfl) (hJ167 _ () h _ (ji 3 84 rfl rfl rfl))))
           ·
            exact oP 81 rfl rfl g168 (oP 81 rfl rfl g168 (oV (v_pick_f rfl g168 rfl) (hJ167 _ () h _ (ji 3 84 rfl rfl rfl))))
         ·
          refine rl_condM (j := 77) h rfl (fun g165 h => ?_) (fun g165 h => ?_)
          ·
           exact oK 77 rfl rfl rfl g165 (v_move rfl) (oK 77 rfl rfl rfl g165 (v_eql rfl rfl) (oV (v_pick_t rfl g165 rfl) (hJ164 _ () h _ (ji 3 80 rfl rfl rfl))))
          ·
           exact oP 77 rfl rfl g165 (oP 77 rfl rfl g165 (oV (v_pick_f rfl g165 rfl) (hJ164 _ () h _ (ji 3 80 rfl rfl rfl))))
        ·
         refine rl_condM (j := 73) h rfl (fun g162 h => ?_) (fun g162 h => ?_)
         ·
          exact oK 73 rfl rfl rfl g162 (v_move rfl) (oK 73 rfl rfl rfl g162 (v_eql rfl rfl) (oV (v_pick_t rfl g162 rfl) (hJ161 _ () h _ (ji 3 76 rfl rfl rfl))))
         ·
          exact oP 73 rfl rfl g162 (oP 73 rfl rfl g162 (oV (v_pick_f rfl g162 rfl) (hJ161 _ () h _ (ji 3 76 rfl rfl rfl))))
       ·
        refine rl_condM (j := 69) h rfl (fun g159 h => ?_) (fun g159 h => ?_)
        ·
         exact oK 69 rfl rfl rfl g159 (v_move rfl) (oK 69 rfl rfl rfl g159 (v_eql rfl rfl) (oV (v_pick_t rfl g159 rfl) (hJ158 _ () h _ (ji 3 72 rfl rfl rfl))))
        ·
         exact oP 69 rfl rfl g159 (oP 69 rfl rfl g159 (oV (v_pick_f rfl g159 rfl) (hJ158 _ () h _ (ji 3 72 rfl rfl rfl))))
      ·
       refine wkf (wsr (cal_inv h fun y169 hy169 h => oT (t_call (law04_awake_w hy169) hT .nil .nil (fun R H' hR => ?_))))
       obtain ⟨rfl, rfl⟩ := hR
       refine oM rfl (rl_j (jb 89) je .nil h 3 rfl (fun q170 g170 h => ?_) (fun J171 h hJ171 => ?_))
       ·
        refine oM rfl (rl_j (jb 94) je .nil h 4 rfl (fun q173 g173 h => ?_) (fun J174 h hJ174 => ?_))
        ·
         refine oM rfl (rl_j (jb 103) je .nil h 8 rfl (fun q176 g176 h => ?_) (fun J177 h hJ177 => ?_))
         ·
          refine oM rfl (rl_j (jb 107) je .nil h 3 rfl (fun q180 g180 h => ?_) (fun J181 h hJ181 => ?_))
          ·
           refine oM rfl (rl_j (jb 111) je .nil h 3 rfl (fun q183 g183 h => ?_) (fun J184 h hJ184 => ?_))
           ·
            refine oA rfl (rnf (w_ret (ret_post (.tmp rfl .nil) .nil ?_)))
            obtain rfl := Option.some.inj h
            exact ⟨rfl, rfl⟩
           ·
            refine rl_condM (j := 108) h rfl (fun g185 h => ?_) (fun g185 h => ?_)
            ·
             exact oK 108 rfl rfl rfl g185 (v_move rfl) (oK 108 rfl rfl rfl g185 (v_eql rfl rfl) (oV (v_pick_t rfl g185 rfl) (hJ184 _ () h _ (ji 3 111 rfl rfl rfl))))
            ·
             exact oP 108 rfl rfl g185 (oP 108 rfl rfl g185 (oV (v_pick_f rfl g185 rfl) (hJ184 _ () h _ (ji 3 111 rfl rfl rfl))))
          ·
           refine rl_condM (j := 104) h rfl (fun g182 h => ?_) (fun g182 h => ?_)
           ·
            exact oK 104 rfl rfl rfl g182 (v_move rfl) (oK 104 rfl rfl rfl g182 (v_eql rfl rfl) (oV (v_pick_t rfl g182 rfl) (hJ181 _ () h _ (ji 3 107 rfl rfl rfl))))
           ·
            exact oP 104 rfl rfl g182 (oP 104 rfl rfl g182 (oV (v_pick_f rfl g182 rfl) (hJ181 _ () h _ (ji 3 107 rfl rfl rfl))))
         ·
          refine rl_condM (j := 95) h rfl (fun g178 h => ?_) (fun g178 h => ?_)
          ·
           refine oK 95 rfl rfl rfl g178 (v_move rfl) (cal_inv h fun y179 hy179 h => oK 95 rfl rfl rfl g178 (v_ix (l := y152.1) rfl (fun _ _ h => h) rfl sl23 hy179) (oK 95 rfl rfl rfl g178 (v_loadI ty28 rfl) (oK 95 rfl rfl rfl g178 (v_move rfl) ?_)))
           exact oK 95 rfl rfl rfl g178 (v_move rfl) (oK 95 rfl rfl rfl g178 (v_build (z := (GTok.mk q150 q108.1 (0 : Int))) rfl bu28 ze28 (.cons GTok.f0 fd28_0 rfl (fun _ _ h => h) (.cons GTok.f1 fd28_1 rfl (fun _ _ h => h) .nil))) (oK 95 rfl rfl rfl g178 (v_eqA eq28 rfl rfl) (oV (v_pick_t rfl g178 rfl) (hJ177 _ () h _ (ji 8 103 rfl rfl rfl)))))
          ·
           refine oP 95 rfl rfl g178 (oP 95 rfl rfl g178 (oP 95 rfl rfl g178 (oP 95 rfl rfl g178 (oP 95 rfl rfl g178 ?_))))
           exact oP 95 rfl rfl g178 (oP 95 rfl rfl g178 (oV (v_pick_f rfl g178 rfl) (hJ177 _ () h _ (ji 8 103 rfl rfl rfl))))
        ·
         refine rl_condM (j := 90) h rfl (fun g175 h => ?_) (fun g175 h => ?_)
         ·
          exact oK 90 rfl rfl rfl g175 (v_move rfl) (oK 90 rfl rfl rfl g175 (v_ln (l := y152.1) rfl (fun _ _ h => h) sl23) (oK 90 rfl rfl rfl g175 (v_eql rfl rfl) (oV (v_pick_t rfl g175 rfl) (hJ174 _ () h _ (ji 4 94 rfl rfl rfl)))))
         ·
          exact oP 90 rfl rfl g175 (oP 90 rfl rfl g175 (oP 90 rfl rfl g175 (oV (v_pick_f rfl g175 rfl) (hJ174 _ () h _ (ji 4 94 rfl rfl rfl)))))
       ·
        refine rl_condM (j := 86) h rfl (fun g172 h => ?_) (fun g172 h => ?_)
        ·
         exact oK 86 rfl rfl rfl g172 (v_move rfl) (oK 86 rfl rfl rfl g172 (v_eql rfl rfl) (oV (v_pick_t rfl g172 rfl) (hJ171 _ () h _ (ji 3 89 rfl rfl rfl))))
        ·
         exact oP 86 rfl rfl g172 (oP 86 rfl rfl g172 (oV (v_pick_f rfl g172 rfl) (hJ171 _ () h _ (ji 3 89 rfl rfl rfl))))
     ·
      refine w_condM h rfl (fun _ h => ?_) (fun _ h => ?_)
      ·
       exact w_region (oA rfl (rl_nil (hJ151 _ () h _ (ji 1 10 rfl rfl rfl))))
      ·
       exact w_skip (hJ151 _ () h _ (ji 0 10 rfl rfl rfl))
  ·
   refine rl_condM (j := 22) h rfl (fun g98 h => ?_) (fun g98 h => ?_)
   ·
    exact oK 22 rfl rfl rfl g98 (v_move rfl) (oK 22 rfl rfl rfl g98 (v_lss rfl rfl) (oV (v_pick_t rfl g98 rfl) (hJ97 _ () h _ (ji 3 25 rfl rfl rfl))))
   ·
    exact oP 22 rfl rfl g98 (oP 22 rfl rfl g98 (oV (v_pick_f rfl g98 rfl) (hJ97 _ () h _ (ji 3 25 rfl rfl rfl))))
 ·
  refine w_condM h rfl (fun _ h => ?_) (fun _ h => ?_)
  ·
   exact w_region (oA rfl (rl_nil (hJ2 _ () h _ (ji 1 7 rfl rfl rfl))))
  ·
   exact w_skip (hJ2 _ () h _ (ji 0 7 rfl rfl rfl))

end Go.Proofs.YtbinnmophpfmlaaDoor

