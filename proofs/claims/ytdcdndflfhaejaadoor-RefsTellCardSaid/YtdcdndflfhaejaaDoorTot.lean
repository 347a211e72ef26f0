/- How a model is shown to answer: rules over the words of the models. No condition: general lemmas. -/
import Derived.Test.YtdcdndflfhaejaaDoorLibY
namespace Go.Sy
section tot
variable {α β ι : Type}
/-- It answers, and so. -/
def T (R : β → Prop) (o : Option β) : Prop := ∃ r, o = some r ∧ R r
theorem T.some {R : β → Prop} {r : β} (h : R r) : T R (some r) := ⟨r, rfl, h⟩
theorem T.mono {R R' : β → Prop} {o : Option β} (h : T R o) (k : ∀ r, R r → R' r) : T R' o := by
  obtain ⟨r, h1, h2⟩ := h; exact ⟨r, h1, k r h2⟩
theorem T.cal {Q : α → Prop} {R : β → Prop} {m : Option α} {k : α → Option β} (h : T Q m) (hk : ∀ y, m = Option.some y → Q y → T R (k y)) : T R (cal m k) := by
  obtain ⟨y, h1, h2⟩ := h
  subst h1
  exact hk y rfl h2
theorem T.eq {R : β → Prop} {m : Option α} {k : α → Option β} {y : α} (h : m = Option.some y) (hk : T R (k y)) : T R (Sy.cal m k) := by subst h; exact hk
theorem bI64_of {x : Int} (h : inI64 x) : bI64 x = true := by
  unfold inI64 at h
  cases x with
  | ofNat n =>
    simp only [Int.ofNat_eq_natCast] at h
    exact Nat.ble_eq_true_of_le (by omega)
  | negSucc n => exact Nat.ble_eq_true_of_le (by omega)
theorem T.ck {R : β → Prop} {x : Int} {k : Option β} (hx : -9223372036854775808 ≤ x ∧ x ≤ 9223372036854775807) (h : T R k) : T R (ck x k) := by
  unfold Sy.ck; rw [bI64_of hx]; exact h
theorem T.asr {R : β → Prop} {b : Bool} {k : Option β} (hb : b = true) (h : T R k) : T R (asr b k) := by subst hb; exact h
theorem T.asd {R : β → Prop} {p : Prop} [Decidable p] {k : Option β} (hb : p) (h : T R k) : T R (Sy.asr (decide p) k) := T.asr (decide_eq_true hb) h
theorem T.abl {R : β → Prop} {a b : Nat} {k : Option β} (hb : a ≤ b) (h : T R k) : T R (Sy.asr (Nat.ble a b) k) := T.asr (Nat.ble_eq_true_of_le hb) h
theorem T.br {R : β → Prop} {b : Bool} {t e : Option β} (ht : b = true → T R t) (he : b = false → T R e) : T R (br b t e) := by
  cases b with
  | true => exact ht rfl
  | false => exact he rfl
theorem T.jp (Q : ι → Prop) {R : β → Prop} {B : (ι → Option β) → Option β} {K : ι → Option β} (hB : ∀ J, (∀ i, Q i → T R (J i)) → T R (B J)) (hK : ∀ i, Q i → T R (K i)) : T R (jp B K) := hB K hK
/-- Where the ways are few: as it stands. -/
theorem T.jp0 {R : β → Prop} {B : (ι → Option β) → Option β} {K : ι → Option β} (h : T R (B K)) : T R (Sy.jp B K) := h
theorem T.lp (I : ι → Prop) (μ : ι → Nat) {R : β → Prop} {F : (ι → Option β) → ι → Option β} {i0 : ι} (h0 : I i0) (hμ : μ i0 < 1000000000000000000) (h : ∀ (L : ι → Option β) i, I i → (∀ j, I j → μ j < μ i → T R (L j)) → T R (F L i)) : T R (lp F i0) := by
  have key : ∀ n i, I i → μ i < n → T R (lpN F n i) := by
    intro n
    induction n with
    | zero => intro i _ hn; omega
    | succ n ih => intro i hi hn; exact h (lpN F n) i hi fun j hj hl => ih j hj (by omega)
  unfold Sy.lp fuel
  exact key _ _ h0 hμ
theorem getI_some {l : List α} {i : Int} (h0 : 0 ≤ i) (h1 : i < l.length) : getI l i = some (l[i.toNat]'(by omega)) := by
  unfold getI
  cases i with
  | ofNat n => simp only [Int.ofNat_eq_natCast] at h1; simp
  | negSucc n => omega
theorem T.get {R : β → Prop} {l : List α} {i : Int} {k : α → Option β} (h0 : 0 ≤ i) (h1 : i < l.length) (hk : ∀ y, l[i.toNat]? = Option.some y → T R (k y)) : T R (Sy.cal (getI l i) k) :=
  T.eq (getI_some h0 h1) (hk _ (List.getElem?_eq_getElem (by omega)))
theorem T.iff {R : β → Prop} {o : Option β} {x : β} (h : T (fun r => r = x) o) : o = Option.some x := by
  obtain ⟨r, h1, h2⟩ := h; rw [h1, h2]
theorem T.of {o : Option β} {R : β → Prop} {x : β} (h : o = Option.some x) (hx : R x) : T R o := ⟨x, h, hx⟩
theorem T.get? {o : Option β} {R : β → Prop} (h : T R o) {r : β} (e : o = Option.some r) : R r := by
  obtain ⟨r', h1, h2⟩ := h; rw [h1] at e; cases e; exact h2
end tot
end Go.Sy
