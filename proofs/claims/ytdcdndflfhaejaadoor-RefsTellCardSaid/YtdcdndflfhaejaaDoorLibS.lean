/- Texts, and numbers of other kinds. No condition: general lemmas. -/
import Derived.Test.YtdcdndflfhaejaaDoorLib13
import Derived.Test.YtdcdndflfhaejaaDoorLibM
namespace Go.Sy
theorem wrap_u8 (n : Int) : IntKind.u8.wrap n = n % 256 := by
  have h1 : IntKind.u8.signed = false := rfl
  have h2 : ((2 : Int) ^ IntKind.u8.bits) = 256 := by rfl
  unfold IntKind.wrap
  rw [h1, h2]
  simp

def shl8 (x : UInt8) (n : Nat) : UInt8 := UInt8.ofNat (x.toNat * 2 ^ n)
def shr8 (x : UInt8) (n : Nat) : UInt8 := UInt8.ofNat (x.toNat / 2 ^ n)

section ops
variable {c : Ctx} {d : Option Nat} {ty : TypeId} {pos : String} {af : Array Edge} {g : Option (Nat × Bool)} {σ : St}

theorem v_idxS {x i : Operand} {s : Str} {k : Int} (y : UInt8) {T : Nat} (hT : StrB c.P T = true) (hx : opnd σ.Γ x = some (isv s)) (hi : opnd σ.Γ i = some (isv k))
    (hy : getI s.b k = some y) : OpV c ⟨d, .index T x i, ty, pos, af, g⟩ σ (isv y) := fun S a w m => by
  obtain ⟨h1, h2⟩ := isv_str.1 (opnd_sound m hx)
  obtain ⟨h5, _⟩ := isv_int.1 (opnd_sound m hi)
  obtain ⟨hk, hy⟩ := getI_inv hy
  refine ⟨.int .u8 y.toNat, isv_u8.2 rfl, fun w' _ => ?_⟩
  have h3 : s.ba[k.toNat]? = some y := by
    have hlt := (List.getElem?_eq_some_iff.1 hy).1
    have hlt2 : k.toNat < s.ba.size := by rw [Str.ba_size]; exact hlt
    rw [getElem?_pos s.ba k.toNat hlt2]
    have : s.ba[k.toNat] = s.b[k.toNat] := rfl
    rw [this]; exact congrArg some (List.getElem?_eq_some_iff.1 hy).2
  simp [execOp, h1, h5, Instr.index, asIntOf, underlying, StrB.spec hT, hk, h3]

theorem extract_ba (s : Str) (i j : Nat) : s.ba.extract i j = Str.ba ⟨(s.b.take j).drop i⟩ := by
  have h : (s.ba.extract i j).data = (Str.ba ⟨(s.b.take j).drop i⟩).data := by
    rw [ByteArray.data_extract]
    simp [Str.ba]
    rw [List.drop_take]
  cases h1 : s.ba.extract i j
  cases h2 : Str.ba ⟨(s.b.take j).drop i⟩
  rw [h1, h2] at h
  simp only at h
  rw [h]

theorem v_slS {x : Operand} {lo hi : Option Operand} {s : Str} {k q : Int} {T : Nat} (hT : StrB c.P T = true) (hx : opnd σ.Γ x = some (isv s))
    (hlo : (lo = none ∧ k = 0) ∨ ∃ o, lo = some o ∧ opnd σ.Γ o = some (isv k)) (hhi : (hi = none ∧ q = s.b.length) ∨ ∃ o, hi = some o ∧ opnd σ.Γ o = some (isv q))
    (hk : 0 ≤ k) (hkq : k ≤ q) (hq : q ≤ s.b.length) : OpV c ⟨d, .slice T x lo hi none, ty, pos, af, g⟩ σ (isv (Str.mk ((s.b.take q.toNat).drop k.toNat))) := fun S a w m => by
  obtain ⟨h1, h2⟩ := isv_str.1 (opnd_sound m hx)
  refine ⟨.string (Str.ba ⟨(s.b.take q.toNat).drop k.toNat⟩), isv_str.2 ⟨rfl, by simp only [List.length_drop, List.length_take]; omega⟩, fun w' _ => ?_⟩
  have hsz : s.ba.size = s.b.length := Str.ba_size s
  have b1 : ∀ (v : Value) (code : BoundsCode), v = .int .i64 q → (Instr.sliceBound v s.ba.size code).run c.P w' = .ok q.toNat w' := fun v code hv => by
    rw [hv]; exact sliceBound_ok (by omega) (by rw [hsz]; omega)
  have b2 : ∀ (v : Value) (code : BoundsCode), v = .int .i64 k → (Instr.sliceBound v q.toNat code).run c.P w' = .ok k.toNat w' := fun v code hv => by
    rw [hv]; exact sliceBound_ok (by omega) (by omega)
  have ex := extract_ba s k.toNat q.toNat
  rcases hlo with ⟨rfl, rfl⟩ | ⟨o1, rfl, ho1⟩
  · rcases hhi with ⟨rfl, rfl⟩ | ⟨o2, rfl, ho2⟩
    · have ex' : s.ba.extract 0 s.ba.size = Str.ba ⟨(s.b.take (s.b.length : Int).toNat).drop (0 : Int).toNat⟩ := by rw [hsz]; exact extract_ba s 0 s.b.length
      simp [execOp, h1, Instr.sliceAt, Instr.slice, Instr.sliceBounds, underlying, StrB.spec hT] at ex' ⊢ <;> exact ex'
    · have e2 := b1 _ .sliceAlen (isv_int.1 (opnd_sound m ho2)).1
      simp [execOp, h1, Instr.sliceAt, Instr.slice, Instr.sliceBounds, underlying, StrB.spec hT, e2] at ex ⊢ <;> exact ex
  · have e1 := fun code => b2 _ code (isv_int.1 (opnd_sound m ho1)).1
    rcases hhi with ⟨rfl, rfl⟩ | ⟨o2, rfl, ho2⟩
    · have e1' : (Instr.sliceBound (a.eval o1) s.ba.size .sliceB).run c.P w' = .ok k.toNat w' := by
        have := e1 .sliceB
        rw [hsz]; simpa using this
      have ex' : s.ba.extract k.toNat s.ba.size = Str.ba ⟨(s.b.take (s.b.length : Int).toNat).drop k.toNat⟩ := by rw [hsz]; exact extract_ba s k.toNat s.b.length
      simp [execOp, h1, Instr.sliceAt, Instr.slice, Instr.sliceBounds, underlying, StrB.spec hT, e1'] at ex' ⊢ <;> exact ex'
    · have e2 := b1 _ .sliceAlen (isv_int.1 (opnd_sound m ho2)).1
      simp [execOp, h1, Instr.sliceAt, Instr.slice, Instr.sliceBounds, underlying, StrB.spec hT, e2, e1] <;> exact ex

theorem append_ba (s t : Str) : s.ba ++ t.ba = Str.ba ⟨s.b ++ t.b⟩ := by
  have h : (s.ba ++ t.ba).data = (Str.ba ⟨s.b ++ t.b⟩).data := by
    rw [ByteArray.data_append]
    simp [Str.ba]
  cases h1 : s.ba ++ t.ba
  cases h2 : Str.ba ⟨s.b ++ t.b⟩
  rw [h1, h2] at h
  simp only at h
  rw [h]

theorem v_cat {x y : Operand} {s t : Str} {T U : TypeId} (hx : opnd σ.Γ x = some (isv s)) (hy : opnd σ.Γ y = some (isv t)) (hl : Nat.ble (s.b.length + t.b.length) 4611686018427387904 = true) :
    OpV c ⟨d, .binOp .add T x y U, ty, pos, af, g⟩ σ (isv (Str.mk (s.b ++ t.b))) := fun S a w m => by
  obtain ⟨h1, _⟩ := isv_str.1 (opnd_sound m hx)
  obtain ⟨h2, _⟩ := isv_str.1 (opnd_sound m hy)
  have hl' := Nat.le_of_ble_eq_true hl
  refine ⟨.string (Str.ba ⟨s.b ++ t.b⟩), isv_str.2 ⟨rfl, by simp only [List.length_append]; exact hl'⟩, fun w' _ => ?_⟩
  simp [execOp, binOp, eqGuard, h1, h2, Op.stringOp, append_ba]
  rw [Str.ba_size, Str.ba_size]; omega

section u8
variable {x y : Operand} {t u : TypeId} {p q : UInt8}
theorem c_lt (p q : UInt8) : decide ((p.toNat : Int) < (q.toNat : Int)) = decide (p < q) := by
  rw [decide_eq_decide, UInt8.lt_iff_toNat_lt]; omega
theorem c_le (p q : UInt8) : decide ((p.toNat : Int) ≤ (q.toNat : Int)) = decide (p ≤ q) := by
  rw [decide_eq_decide, UInt8.le_iff_toNat_le]; omega
theorem v_lss8 (hx : opnd σ.Γ x = some (isv p)) (hy : opnd σ.Γ y = some (isv q)) : OpV c ⟨d, .binOp .lss t x y u, ty, pos, af, g⟩ σ (isv (decide (p < q))) := fun S a w m => by
  have h1 := isv_u8.1 (opnd_sound m hx)
  have h2 := isv_u8.1 (opnd_sound m hy)
  exact ⟨.bool (decide (p < q)), isv_bool.2 rfl, fun w' _ => by rw [← c_lt]; simp [execOp, binOp, eqGuard, h1, h2, Op.intCmp]⟩
theorem v_gtr8 (hx : opnd σ.Γ x = some (isv p)) (hy : opnd σ.Γ y = some (isv q)) : OpV c ⟨d, .binOp .gtr t x y u, ty, pos, af, g⟩ σ (isv (decide (q < p))) := fun S a w m => by
  have h1 := isv_u8.1 (opnd_sound m hx)
  have h2 := isv_u8.1 (opnd_sound m hy)
  exact ⟨.bool (decide (q < p)), isv_bool.2 rfl, fun w' _ => by rw [← c_lt]; simp [execOp, binOp, eqGuard, h1, h2, Op.intCmp]⟩
theorem v_leq8 (hx : opnd σ.Γ x = some (isv p)) (hy : opnd σ.Γ y = some (isv q)) : OpV c ⟨d, .binOp .leq t x y u, ty, pos, af, g⟩ σ (isv (decide (p ≤ q))) := fun S a w m => by
  have h1 := isv_u8.1 (opnd_sound m hx)
  have h2 := isv_u8.1 (opnd_sound m hy)
  exact ⟨.bool (decide (p ≤ q)), isv_bool.2 rfl, fun w' _ => by rw [← c_le]; simp [execOp, binOp, eqGuard, h1, h2, Op.intCmp]⟩
theorem v_geq8 (hx : opnd σ.Γ x = some (isv p)) (hy : opnd σ.Γ y = some (isv q)) : OpV c ⟨d, .binOp .geq t x y u, ty, pos, af, g⟩ σ (isv (decide (q ≤ p))) := fun S a w m => by
  have h1 := isv_u8.1 (opnd_sound m hx)
  have h2 := isv_u8.1 (opnd_sound m hy)
  exact ⟨.bool (decide (q ≤ p)), isv_bool.2 rfl, fun w' _ => by rw [← c_le]; simp [execOp, binOp, eqGuard, h1, h2, Op.intCmp]⟩
theorem v_add8 (hx : opnd σ.Γ x = some (isv p)) (hy : opnd σ.Γ y = some (isv q)) : OpV c ⟨d, .binOp .add t x y u, ty, pos, af, g⟩ σ (isv (p + q)) := fun S a w m => by
  have h1 := isv_u8.1 (opnd_sound m hx)
  have h2 := isv_u8.1 (opnd_sound m hy)
  have e : (((p + q).toNat : Nat) : Int) = ((p.toNat : Int) + (q.toNat : Int)) % 256 := by rw [UInt8.toNat_add]; omega
  exact ⟨.int .u8 ((p + q).toNat : Int), isv_u8.2 rfl, fun w' _ => by rw [e]; simp [execOp, binOp, eqGuard, h1, h2, Op.intArith, wrap_u8]⟩
theorem v_sub8 (hx : opnd σ.Γ x = some (isv p)) (hy : opnd σ.Γ y = some (isv q)) : OpV c ⟨d, .binOp .sub t x y u, ty, pos, af, g⟩ σ (isv (p - q)) := fun S a w m => by
  have h1 := isv_u8.1 (opnd_sound m hx)
  have h2 := isv_u8.1 (opnd_sound m hy)
  have hp := p.toNat_lt
  have hq := q.toNat_lt
  have e : (((p - q).toNat : Nat) : Int) = ((p.toNat : Int) - (q.toNat : Int)) % 256 := by rw [UInt8.toNat_sub]; omega
  exact ⟨.int .u8 ((p - q).toNat : Int), isv_u8.2 rfl, fun w' _ => by rw [e]; simp [execOp, binOp, eqGuard, h1, h2, Op.intArith, wrap_u8]⟩
theorem bv8 (p : UInt8) : BitVec.ofInt 8 (p.toNat : Int) = p.toBitVec := by
  apply BitVec.eq_of_toNat_eq
  rw [BitVec.toNat_ofInt]
  have h := p.toNat_lt
  have e : p.toBitVec.toNat = p.toNat := rfl
  rw [e]
  omega
theorem v_or8 (hx : opnd σ.Γ x = some (isv p)) (hy : opnd σ.Γ y = some (isv q)) : OpV c ⟨d, .binOp .or t x y u, ty, pos, af, g⟩ σ (isv (p ||| q)) := fun S a w m => by
  have h1 := isv_u8.1 (opnd_sound m hx)
  have h2 := isv_u8.1 (opnd_sound m hy)
  have h := (p ||| q).toNat_lt
  have e : (((p ||| q).toNat : Nat) : Int) = ((BitVec.ofInt 8 (p.toNat : Int) ||| BitVec.ofInt 8 (q.toNat : Int)).toNat : Int) % 256 := by
    rw [bv8, bv8]
    have : (p.toBitVec ||| q.toBitVec).toNat = (p ||| q).toNat := rfl
    rw [this]; omega
  exact ⟨.int .u8 ((p ||| q).toNat : Int), isv_u8.2 rfl, fun w' _ => by
    have hr : (Op.intBits .or .u8 (p.toNat : Int) (q.toNat : Int)).run c.P w' = .ok (.int .u8 ((p ||| q).toNat : Int)) w' := by
      rw [e]; unfold Op.intBits; simp only [Sem.run_pure, wrap_u8]; rfl
    simp [execOp, binOp, eqGuard, h1, h2, hr]⟩
theorem v_and8 (hx : opnd σ.Γ x = some (isv p)) (hy : opnd σ.Γ y = some (isv q)) : OpV c ⟨d, .binOp .and t x y u, ty, pos, af, g⟩ σ (isv (p &&& q)) := fun S a w m => by
  have h1 := isv_u8.1 (opnd_sound m hx)
  have h2 := isv_u8.1 (opnd_sound m hy)
  have h := (p &&& q).toNat_lt
  have e : (((p &&& q).toNat : Nat) : Int) = ((BitVec.ofInt 8 (p.toNat : Int) &&& BitVec.ofInt 8 (q.toNat : Int)).toNat : Int) % 256 := by
    rw [bv8, bv8]
    have : (p.toBitVec &&& q.toBitVec).toNat = (p &&& q).toNat := rfl
    rw [this]; omega
  exact ⟨.int .u8 ((p &&& q).toNat : Int), isv_u8.2 rfl, fun w' _ => by
    have hr : (Op.intBits .and .u8 (p.toNat : Int) (q.toNat : Int)).run c.P w' = .ok (.int .u8 ((p &&& q).toNat : Int)) w' := by
      rw [e]; unfold Op.intBits; simp only [Sem.run_pure, wrap_u8]; rfl
    simp [execOp, binOp, eqGuard, h1, h2, hr]⟩
theorem v_shl8 {n : UInt64} (hx : opnd σ.Γ x = some (isv p)) (hy : opnd σ.Γ y = some (isv n)) (hn : Nat.ble n.toNat 8 = true) : OpV c ⟨d, .binOp .shl t x y u, ty, pos, af, g⟩ σ (isv (shl8 p n.toNat)) := fun S a w m => by
  have h1 := isv_u8.1 (opnd_sound m hx)
  have h2 := isv_u64.1 (opnd_sound m hy)
  have hn' := Nat.le_of_ble_eq_true hn
  have e : (((shl8 p n.toNat).toNat : Nat) : Int) = ((p.toNat : Int) * 2 ^ n.toNat) % 256 := by
    unfold shl8
    rw [UInt8.toNat_ofNat']
    simp
  have hmin : min n.toNat 8 = n.toNat := Nat.min_eq_left hn'
  exact ⟨.int .u8 ((shl8 p n.toNat).toNat : Int), isv_u8.2 rfl, fun w' _ => by rw [e]; simp [execOp, binOp, eqGuard, h1, h2, Op.shift, wrap_u8, IntKind.bits, hmin]⟩
end u8

section u64
variable {x y : Operand} {t u : TypeId} {p q : UInt64}
theorem v_lss64 (hx : opnd σ.Γ x = some (isv p)) (hy : opnd σ.Γ y = some (isv q)) : OpV c ⟨d, .binOp .lss t x y u, ty, pos, af, g⟩ σ (isv (decide (p < q))) := fun S a w m => by
  have h1 := isv_u64.1 (opnd_sound m hx)
  have h2 := isv_u64.1 (opnd_sound m hy)
  have e : decide (p < q) = decide ((p.toNat : Int) < (q.toNat : Int)) := by rw [decide_eq_decide, UInt64.lt_iff_toNat_lt]; omega
  exact ⟨.bool (decide (p < q)), isv_bool.2 rfl, fun w' _ => by rw [e]; simp [execOp, binOp, eqGuard, h1, h2, Op.intCmp]⟩
theorem v_gtr64 (hx : opnd σ.Γ x = some (isv p)) (hy : opnd σ.Γ y = some (isv q)) : OpV c ⟨d, .binOp .gtr t x y u, ty, pos, af, g⟩ σ (isv (decide (q < p))) := fun S a w m => by
  have h1 := isv_u64.1 (opnd_sound m hx)
  have h2 := isv_u64.1 (opnd_sound m hy)
  have e : decide (q < p) = decide ((q.toNat : Int) < (p.toNat : Int)) := by rw [decide_eq_decide, UInt64.lt_iff_toNat_lt]; omega
  exact ⟨.bool (decide (q < p)), isv_bool.2 rfl, fun w' _ => by rw [e]; simp [execOp, binOp, eqGuard, h1, h2, Op.intCmp]⟩
theorem v_eql64 (hx : opnd σ.Γ x = some (isv p)) (hy : opnd σ.Γ y = some (isv q)) : OpV c ⟨d, .binOp .eql t x y u, ty, pos, af, g⟩ σ (isv (decide (p = q))) := fun S a w m => by
  have h1 := isv_u64.1 (opnd_sound m hx)
  have h2 := isv_u64.1 (opnd_sound m hy)
  have e : decide (p = q) = decide (p.toNat = q.toNat) := by rw [decide_eq_decide, UInt64.toNat_inj]
  have hb : ((p.toNat : Int) == (q.toNat : Int)) = decide (p.toNat = q.toNat) := by
    by_cases h : p.toNat = q.toNat <;> simp [h]; omega
  exact ⟨.bool (decide (p = q)), isv_bool.2 rfl, fun w' _ => by rw [e]; simp only [execOp, binOp, eqGuard, h1, h2, Op.intCmp, hb]; simp⟩
theorem v_add64 (hx : opnd σ.Γ x = some (isv p)) (hy : opnd σ.Γ y = some (isv q)) : OpV c ⟨d, .binOp .add t x y u, ty, pos, af, g⟩ σ (isv (p + q)) := fun S a w m => by
  have h1 := isv_u64.1 (opnd_sound m hx)
  have h2 := isv_u64.1 (opnd_sound m hy)
  have e : (((p + q).toNat : Nat) : Int) = ((p.toNat : Int) + (q.toNat : Int)) % 18446744073709551616 := by rw [UInt64.toNat_add]; omega
  exact ⟨.int .u64 ((p + q).toNat : Int), isv_u64.2 rfl, fun w' _ => by rw [e]; simp [execOp, binOp, eqGuard, h1, h2, Op.intArith, wrap_u64]⟩
theorem v_sub64 (hx : opnd σ.Γ x = some (isv p)) (hy : opnd σ.Γ y = some (isv q)) : OpV c ⟨d, .binOp .sub t x y u, ty, pos, af, g⟩ σ (isv (p - q)) := fun S a w m => by
  have h1 := isv_u64.1 (opnd_sound m hx)
  have h2 := isv_u64.1 (opnd_sound m hy)
  have hp := p.toNat_lt
  have hq := q.toNat_lt
  have e : (((p - q).toNat : Nat) : Int) = ((p.toNat : Int) - (q.toNat : Int)) % 18446744073709551616 := by rw [UInt64.toNat_sub]; omega
  exact ⟨.int .u64 ((p - q).toNat : Int), isv_u64.2 rfl, fun w' _ => by rw [e]; simp [execOp, binOp, eqGuard, h1, h2, Op.intArith, wrap_u64]⟩
theorem v_mul64 (hx : opnd σ.Γ x = some (isv p)) (hy : opnd σ.Γ y = some (isv q)) : OpV c ⟨d, .binOp .mul t x y u, ty, pos, af, g⟩ σ (isv (p * q)) := fun S a w m => by
  have h1 := isv_u64.1 (opnd_sound m hx)
  have h2 := isv_u64.1 (opnd_sound m hy)
  have e : (((p * q).toNat : Nat) : Int) = ((p.toNat : Int) * (q.toNat : Int)) % 18446744073709551616 := by
    rw [UInt64.toNat_mul]; simp
  exact ⟨.int .u64 ((p * q).toNat : Int), isv_u64.2 rfl, fun w' _ => by rw [e]; simp [execOp, binOp, eqGuard, h1, h2, Op.intArith, wrap_u64]⟩
theorem v_quo64 (hx : opnd σ.Γ x = some (isv p)) (hy : opnd σ.Γ y = some (isv q)) (hq : (!decide (q = 0)) = true) : OpV c ⟨d, .binOp .quo t x y u, ty, pos, af, g⟩ σ (isv (p / q)) := fun S a w m => by
  have h1 := isv_u64.1 (opnd_sound m hx)
  have h2 := isv_u64.1 (opnd_sound m hy)
  have hq0 : q.toNat ≠ 0 := fun h => by
    have : q = 0 := UInt64.toNat_inj.1 h
    simp [this] at hq
  have hlt := (p / q).toNat_lt
  have e : ((p.toNat : Int).tdiv (q.toNat : Int)) = ((p / q).toNat : Int) := by
    rw [UInt64.toNat_div]; rfl
  have e2 : (((p / q).toNat : Nat) : Int) % 18446744073709551616 = ((p / q).toNat : Int) := by omega
  refine ⟨.int .u64 ((p / q).toNat : Int), isv_u64.2 rfl, fun w' _ => ?_⟩
  have hqi : ¬ ((q.toNat : Int) = 0) := by omega
  have hr : (Op.intDiv .quo .u64 (p.toNat : Int) (q.toNat : Int)).run c.P w' = .ok (.int .u64 ((p / q).toNat : Int)) w' := by
    unfold Op.intDiv; rw [if_neg hqi]; simp only [Sem.run_pure, wrap_u64, e, e2]
  simp [execOp, binOp, eqGuard, h1, h2, hr]
theorem v_rem64 (hx : opnd σ.Γ x = some (isv p)) (hy : opnd σ.Γ y = some (isv q)) (hq : (!decide (q = 0)) = true) : OpV c ⟨d, .binOp .rem t x y u, ty, pos, af, g⟩ σ (isv (p % q)) :=
  v_remU hx hy (fun h => by
    have : q = 0 := UInt64.toNat_inj.1 h
    simp [this] at hq)
end u64

theorem v_u8u64 {x : Operand} {p : UInt8} {T U : TypeId} {k : IntKind} (hT : c.P.underlying T = some (.int k)) (hU : c.P.underlying U = some (.int .u64)) (hx : opnd σ.Γ x = some (isv p)) :
    OpV c ⟨d, .convert T U x, ty, pos, af, g⟩ σ (isv (p.toUInt64)) := fun S a w m => by
  have h1 := isv_u8.1 (opnd_sound m hx)
  have h := p.toNat_lt
  exact ⟨.int .u64 (p.toUInt64.toNat : Int), isv_u64.2 rfl, fun w' _ => by
    have e : ((p.toUInt64.toNat : Nat) : Int) = (p.toNat : Int) % 18446744073709551616 := by simp; omega
    rw [e]
    simp [execOp, convert, underlying, hT, hU, h1, Conv.intToInt, wrap_u64]⟩
theorem v_u64u8 {x : Operand} {p : UInt64} {T U : TypeId} {k : IntKind} (hT : c.P.underlying T = some (.int k)) (hU : c.P.underlying U = some (.int .u8)) (hx : opnd σ.Γ x = some (isv p)) :
    OpV c ⟨d, .convert T U x, ty, pos, af, g⟩ σ (isv (p.toUInt8)) := fun S a w m => by
  have h1 := isv_u64.1 (opnd_sound m hx)
  exact ⟨.int .u8 (p.toUInt8.toNat : Int), isv_u8.2 rfl, fun w' _ => by
    have e : ((p.toUInt8.toNat : Nat) : Int) = (p.toNat : Int) % 256 := by simp
    rw [e]
    simp [execOp, convert, underlying, hT, hU, h1, Conv.intToInt, wrap_u8]⟩
theorem v_ii {x : Operand} {p : Int} {T U : TypeId} {k : IntKind} (hT : c.P.underlying T = some (.int k)) (hU : c.P.underlying U = some (.int .i64)) (hx : opnd σ.Γ x = some (isv p)) :
    OpV c ⟨d, .convert T U x, ty, pos, af, g⟩ σ (isv p) := fun S a w m => by
  obtain ⟨h1, h2⟩ := isv_int.1 (opnd_sound m hx)
  exact ⟨.int .i64 p, isv_int.2 ⟨rfl, h2⟩, fun w' _ => by
    simp [execOp, convert, underlying, hT, hU, h1, Conv.intToInt, wrap_i64 h2]⟩
theorem v_u64i {x : Operand} {u : UInt64} {T U : TypeId} {k : IntKind} (hT : c.P.underlying T = some (.int k)) (hU : c.P.underlying U = some (.int .i64)) (hx : opnd σ.Γ x = some (isv u)) (hu : inI64 (u.toNat : Int)) :
    OpV c ⟨d, .convert T U x, ty, pos, af, g⟩ σ (isv (u.toNat : Int)) := v_toI hT hU hx hu.2
theorem v_neg {x : Operand} {t : TypeId} {p : Int} (hx : opnd σ.Γ x = some (isv p)) (hb : inI64 (-p)) : OpV c ⟨d, .unOp .neg t x, ty, pos, af, g⟩ σ (isv (-p)) := fun S a w m => by
  obtain ⟨h1, _⟩ := isv_int.1 (opnd_sound m hx)
  exact ⟨.int .i64 (-p), isv_int.2 ⟨rfl, hb⟩, fun w' _ => by
    have e : (0 : Int) - p = -p := by omega
    simp [execOp, Op.unary, h1, Op.intArith, e, wrap_i64 hb]⟩
end ops
end Go.Sy
