/- Numbers of other kinds. No condition: general lemmas. -/
import Derived.Test.YtdcdndflfhaejaaDoorLib12
namespace Go.Sy
section ops
variable {c : Ctx} {d : Option Nat} {ty : TypeId} {pos : String} {af : Array Edge} {g : Option (Nat × Bool)} {σ : St}

theorem wrap_u64 (n : Int) : IntKind.u64.wrap n = n % 18446744073709551616 := by
  have h1 : IntKind.u64.signed = false := rfl
  have h2 : ((2 : Int) ^ IntKind.u64.bits) = 18446744073709551616 := by rfl
  unfold IntKind.wrap
  rw [h1, h2]
  simp

theorem v_toU {x : Operand} {p : Int} {T U : TypeId} {k : IntKind} (hT : c.P.underlying T = some (.int k)) (hU : c.P.underlying U = some (.int .u64)) (hx : opnd σ.Γ x = some (isv p)) :
    OpV c ⟨d, .convert T U x, ty, pos, af, g⟩ σ (isv (UInt64.ofNat (p % 18446744073709551616).toNat)) := fun S a w m => by
  obtain ⟨h1, _⟩ := isv_int.1 (opnd_sound m hx)
  have h0 : 0 ≤ p % 18446744073709551616 := by omega
  have h2 : p % 18446744073709551616 < 18446744073709551616 := by omega
  have e : ((UInt64.ofNat (p % 18446744073709551616).toNat).toNat : Int) = p % 18446744073709551616 := by
    rw [UInt64.toNat_ofNat', Nat.mod_eq_of_lt (by omega)]; omega
  exact ⟨.int .u64 (p % 18446744073709551616), isv_u64.2 (by rw [e]), fun w' _ => by
    simp [execOp, convert, underlying, hT, hU, h1, Conv.intToInt, wrap_u64]⟩

theorem v_toI {x : Operand} {u : UInt64} {T U : TypeId} {k : IntKind} (hT : c.P.underlying T = some (.int k)) (hU : c.P.underlying U = some (.int .i64)) (hx : opnd σ.Γ x = some (isv u)) (hu : (u.toNat : Int) ≤ 9223372036854775807) :
    OpV c ⟨d, .convert T U x, ty, pos, af, g⟩ σ (isv (u.toNat : Int)) := fun S a w m => by
  have h1 := isv_u64.1 (opnd_sound m hx)
  have hb : inI64 (u.toNat : Int) := in_mk (by omega) hu
  exact ⟨.int .i64 u.toNat, isv_int.2 ⟨rfl, hb⟩, fun w' _ => by
    simp [execOp, convert, underlying, hT, hU, h1, Conv.intToInt, wrap_i64 hb]⟩

theorem v_remU {x y : Operand} {p q : UInt64} {T U : TypeId} (hx : opnd σ.Γ x = some (isv p)) (hy : opnd σ.Γ y = some (isv q)) (hq : q.toNat ≠ 0) :
    OpV c ⟨d, .binOp .rem T x y U, ty, pos, af, g⟩ σ (isv (p % q)) := fun S a w m => by
  have h1 := isv_u64.1 (opnd_sound m hx)
  have h2 := isv_u64.1 (opnd_sound m hy)
  refine ⟨.int .u64 ((p % q).toNat : Int), isv_u64.2 rfl, fun w' _ => ?_⟩
  have e : ((p.toNat : Int).tmod (q.toNat : Int)) = ((p % q).toNat : Int) := by
    rw [UInt64.toNat_mod]; rfl
  simp [execOp, binOp, eqGuard, h1, h2, Op.intDiv, e]
  intro h; exact absurd h hq
end ops
theorem appv_isvE {α : Type} [Rep α] {t : Tok} {x y : List α} (e : x = y) : ∀ S v, (appv t x).p S v → (isv y).p S v := fun S v h => e ▸ appv_isv S v h
end Go.Sy
