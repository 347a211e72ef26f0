/- Numbers: the lexer's model answers, and what it lets pass. No condition: general lemmas. -/
import Derived.Test.YtdcdndflfhaejaaDoorLexT
namespace Go.Proofs.YtdcdndflfhaejaaDoor
open Go.Sy
set_option linter.unusedVariables false

theorem snocInd {α : Type} {P : List α → Prop} (h0 : P []) (h1 : ∀ l a, P l → P (l ++ [a])) (l : List α) : P l := by
  have : ∀ m : List α, P m.reverse := by
    intro m
    induction m with
    | nil => exact h0
    | cons a m ih => rw [List.reverse_cons]; exact h1 _ _ ih
  have h := this l.reverse
  rwa [List.reverse_reverse] at h

/-- What digits say. -/
def dval (l : List UInt8) : Nat := l.foldl (fun v d => 10 * v + (d.toNat - 48)) 0
def uval (l : List UInt8) : UInt64 := l.foldl (fun v d => 10 * v + (d - 48).toUInt64) 0
theorem digit_range {d : UInt8} (h : isDigit d = true) : 48 ≤ d.toNat ∧ d.toNat ≤ 57 := by
  unfold isDigit at h
  simp only [Bool.and_eq_true, decide_eq_true_eq] at h
  have h1 := UInt8.le_iff_toNat_le.1 h.1
  have h2 := UInt8.le_iff_toNat_le.1 h.2
  simp at h1 h2
  omega
theorem digit_u {d : UInt8} (h : isDigit d = true) : (d - 48).toUInt64.toNat = d.toNat - 48 := by
  have h1 := digit_range h
  have h2 := d.toNat_lt
  have h3 : (48 : UInt8).toNat = 48 := rfl
  rw [UInt8.toNat_toUInt64, UInt8.toNat_sub, h3]
  omega
theorem dval_snoc (l : List UInt8) (d : UInt8) : dval (l ++ [d]) = 10 * dval l + (d.toNat - 48) := by simp [dval]
theorem uval_snoc (l : List UInt8) (d : UInt8) : uval (l ++ [d]) = 10 * uval l + (d - 48).toUInt64 := by simp [uval]
def digs (l : List UInt8) : Prop := ∀ d ∈ l, isDigit d = true
theorem digs_snoc {l : List UInt8} {d : UInt8} (h : digs (l ++ [d])) : digs l ∧ isDigit d = true :=
  ⟨fun x hx => h x (List.mem_append_left _ hx), h d (List.mem_append_right _ (List.mem_singleton.2 rfl))⟩
theorem dval_lt (l : List UInt8) : digs l → dval l < 10 ^ l.length := by
  refine snocInd (P := fun l => digs l → dval l < 10 ^ l.length) (fun _ => by simp [dval]) (fun l d ih h => ?_) l
  obtain ⟨h1, h2⟩ := digs_snoc h
  have h3 := ih h1
  have h4 := digit_range h2
  rw [dval_snoc, List.length_append, List.length_singleton, Nat.pow_succ]
  omega
theorem pow19 {n : Nat} (h : n ≤ 19) : 10 ^ n ≤ 10000000000000000000 := by
  have := Nat.pow_le_pow_right (show 0 < 10 by omega) h
  simpa using this
theorem uval_dval (l : List UInt8) : digs l → l.length ≤ 19 → (uval l).toNat = dval l := by
  refine snocInd (P := fun l => digs l → l.length ≤ 19 → (uval l).toNat = dval l) (fun _ _ => by simp [dval, uval]) (fun l d ih h hl => ?_) l
  obtain ⟨h1, h2⟩ := digs_snoc h
  rw [List.length_append, List.length_singleton] at hl
  have h3 := ih h1 (by omega)
  have h4 := digit_range h2
  have h5 := dval_lt (l ++ [d]) h
  rw [List.length_append, List.length_singleton] at h5
  have h6 := pow19 hl
  rw [dval_snoc] at h5
  rw [uval_snoc, dval_snoc, UInt64.toNat_add, UInt64.toNat_mul, h3, digit_u h2]
  have h7 : (10 : UInt64).toNat = 10 := rfl
  rw [h7]
  omega
theorem dval_pos {d : UInt8} {l : List UInt8} (h : digs (d :: l)) (hd : d ≠ 48) : 1 ≤ dval (d :: l) := by
  refine snocInd (P := fun l => digs (d :: l) → 1 ≤ dval (d :: l)) (fun h => ?_) (fun l e ih h => ?_) l h
  · have h1 := digit_range (h d (List.mem_singleton.2 rfl))
    have h2 : d.toNat ≠ 48 := fun e => hd (UInt8.toNat_inj.1 e)
    have e : dval [d] = d.toNat - 48 := by simp [dval]
    omega
  · have h2 := ih (digs_snoc (l := d :: l) h).1
    have e1 := dval_snoc (d :: l) e
    have e2 : d :: (l ++ [e]) = d :: l ++ [e] := rfl
    rw [e2, e1]; omega

/-- A number of 64 bits, as it is written. -/
def NumOk (b : List UInt8) : Prop := ∃ ds, digs ds ∧ ds ≠ [] ∧ ds.length ≤ 19 ∧ ((b = ds ∧ dval ds < 9223372036854775808) ∨ (b = 45 :: ds ∧ 1 ≤ dval ds ∧ dval ds ≤ 9223372036854775808))

theorem seg_snoc {l : List UInt8} {f k : Nat} {y : UInt8} (hf : f ≤ k) (hy : l[k]? = some y) : (l.take (k + 1)).drop f = (l.take k).drop f ++ [y] := by
  have hlt := (List.getElem?_eq_some_iff.1 hy).1
  have h1 : l.take (k + 1) = l.take k ++ [y] := by
    rw [List.take_add_one, hy]; rfl
  rw [h1, List.drop_append_of_le_length (by rw [List.length_take]; omega)]
theorem seg_cons {l : List UInt8} {f k : Nat} {y : UInt8} (hf : f < k) (hk : k ≤ l.length) (hy : l[f]? = some y) : (l.take k).drop f = y :: (l.take k).drop (f + 1) := by
  have h1 : (l.take k)[f]? = some y := by rw [List.getElem?_take, if_pos hf, hy]
  obtain ⟨h2, h3⟩ := List.getElem?_eq_some_iff.1 h1
  rw [List.drop_eq_getElem_cons h2, h3]
theorem seg_len {l : List UInt8} {f k : Nat} (hk : k ≤ l.length) : ((l.take k).drop f).length = k - f := by
  rw [List.length_drop, List.length_take]; omega

set_option maxHeartbeats 1000000 in
theorem number_tot (s : Str) (i : Int) (h0 : 0 ≤ i) (h1 : i < s.b.length) (hl : s.b.length ≤ 1000000) :
    T (fun r => r = -1 ∨ (i < r ∧ r ≤ s.b.length ∧ NumOk ((s.b.take r.toNat).drop i.toNat))) (r04_number s i) := by
  unfold r04_number
  refine T.get h0 h1 fun y1 hy1 => ?_
  refine T.jp (fun f => (y1 = 45 ∧ f = i + 1) ∨ (y1 ≠ 45 ∧ f = i)) (fun J h => T.br (fun hb => T.ck (by omega) (h _ (.inl ⟨of_decide_eq_true hb, rfl⟩))) fun hb => h _ (.inr ⟨of_decide_eq_false hb, rfl⟩)) fun f hf => ?_
  have hf0 : i ≤ f ∧ f ≤ i + 1 := by omega
  have hfl : f ≤ s.b.length := by omega
  refine T.lp (ι := Int × UInt64) (fun q => f ≤ q.1 ∧ q.1 ≤ s.b.length ∧ digs ((s.b.take q.1.toNat).drop f.toNat) ∧ (q.1 - f ≤ 19 → q.2 = uval ((s.b.take q.1.toNat).drop f.toNat))) (fun q => (s.b.length - q.1).toNat)
    (by
      have e : (s.b.take f.toNat).drop f.toNat = [] := List.drop_eq_nil_of_le (by rw [List.length_take]; omega)
      refine ⟨Int.le_refl _, hfl, ?_, ?_⟩
      · rw [e]; intro d hd; cases hd
      · intro _; rw [e]; rfl) (by simp only; omega) fun L q hq hL => ?_
  obtain ⟨k, v⟩ := q
  obtain ⟨hq1, hq2, hq3, hq4⟩ := hq
  simp only at hq1 hq2 hq3 hq4 ⊢
  refine T.jp (fun b => b = true → k < s.b.length ∧ ∀ y, s.b[k.toNat]? = some y → isDigit y = true) (fun J h => ?_) fun b hb => ?_
  · refine T.br (fun h2 => ?_) fun _ => h _ (fun h => by cases h)
    have h2 := of_decide_eq_true h2
    exact T.get (by omega) h2 fun y hy => T.eq (digit_eq y) (h _ fun hd => ⟨h2, fun y' hy' => by rw [hy] at hy'; cases hy'; exact hd⟩)
  refine T.br (fun h2 => ?_) fun _ => ?_
  · obtain ⟨hk, hd⟩ := hb h2
    obtain ⟨y, hy⟩ : ∃ y, s.b[k.toNat]? = some y := ⟨_, List.getElem?_eq_getElem (by omega)⟩
    have hsn := seg_snoc (l := s.b) (f := f.toNat) (k := k.toNat) (y := y) (by omega) hy
    have hk1 : (k + 1).toNat = k.toNat + 1 := by omega
    refine T.ck (by omega) (T.jp (fun u => k - f < 19 → u = 10 * v + (y - 48).toUInt64) (fun J h => T.br (fun _ => ?_) fun h3 => h _ fun h4 => by have := of_decide_eq_false h3; omega) fun u hu => T.ck (by omega) (hL _ ?_ (by simp only; omega)))
    · exact T.get (by omega) hk fun y' hy' => h _ fun _ => by rw [hy] at hy'; cases hy'; rfl
    · refine ⟨by simp only; omega, by simp only; omega, ?_, fun h19 => ?_⟩
      · simp only
        rw [hk1, hsn]
        intro d hd'
        rcases List.mem_append.1 hd' with h | h
        · exact hq3 d h
        · rw [List.mem_singleton.1 h]; exact hd y hy
      · simp only at h19 ⊢
        rw [hk1, hsn, uval_snoc, hu (by omega), hq4 (by omega)]
  refine T.ck (by omega) ?_
  have hlen := seg_len (l := s.b) (f := f.toNat) (k := k.toNat) (by omega)
  refine T.jp (fun b => b = false → 1 ≤ k - f ∧ k - f ≤ 19) (fun J h => T.br (fun _ => h _ (fun h => by cases h)) fun h2 => h _ fun h3 => by have := of_decide_eq_false h2; have := of_decide_eq_false h3; omega) fun b1 hb1 => ?_
  refine T.jp (fun b => b = false → b1 = false) (fun J h => T.br (fun _ => h _ (fun h => by cases h)) fun h2 => ?_) fun b2 hb2 => ?_
  · refine T.jp (fun _ => True) (fun J3 h3 => T.br (fun h4 => T.get (by omega) (by have := of_decide_eq_true h4; omega) fun _ _ => h3 _ trivial) fun _ => h3 _ trivial) fun b _ => h _ fun _ => h2
  refine T.jp (fun b => b = false → b2 = false ∧ (y1 = 45 → ∀ y, s.b[f.toNat]? = some y → y ≠ 48)) (fun J h => T.br (fun _ => h _ (fun h => by cases h)) fun h2 => ?_) fun b3 hb3 => ?_
  · have h5 := hb1 (hb2 h2)
    refine T.jp (fun b => b = false → (y1 = 45 → ∀ y, s.b[f.toNat]? = some y → y ≠ 48)) (fun J3 h3 => T.br (fun h4 => T.get (by omega) (by omega) fun y hy => h3 _ fun h6 _ y' hy' => ?_) fun h4 => h3 _ fun _ h7 => absurd h7 (of_decide_eq_false h4)) fun b hb => h _ fun h6 => ⟨h2, hb h6⟩
    rw [hy] at hy'; cases hy'
    exact of_decide_eq_false h6
  refine T.jp (fun b => b = false → b3 = false) (fun J h => T.br (fun _ => h _ (fun h => by cases h)) fun h2 => T.cal (at_tot s k) fun y _ _ => T.eq (letter_eq y) (h _ fun _ => h2)) fun b4 hb4 => ?_
  refine T.jp (fun b => b = false → b4 = false ∧ ¬ (9223372036854775808 : UInt64) < v) (fun J h => T.br (fun _ => h _ (fun h => by cases h)) fun h2 => h _ fun h3 => ⟨h2, of_decide_eq_false h3⟩) fun b5 hb5 => ?_
  refine T.jp (fun b => b = false → b5 = false ∧ (y1 ≠ 45 → v ≠ 9223372036854775808)) (fun J h => T.br (fun _ => h _ (fun h => by cases h)) fun h2 => ?_) fun b6 hb6 => ?_
  · refine T.jp (fun b => b = false → (y1 ≠ 45 → v ≠ 9223372036854775808)) (fun J3 h3 => T.br (fun h4 => h3 _ fun h5 _ => of_decide_eq_false h5) fun h4 => h3 _ fun _ h5 => absurd h4 (by simp [h5])) fun b hb => h _ fun h6 => ⟨h2, hb h6⟩
  refine T.br (fun _ => T.some (.inl rfl)) fun h2 => T.some (.inr ?_)
  obtain ⟨e5, hv2⟩ := hb6 h2
  obtain ⟨e4, hv1⟩ := hb5 e5
  obtain ⟨e2, hz⟩ := hb3 (hb4 e4)
  obtain ⟨n1, n2⟩ := hb1 (hb2 e2)
  have hv := hq4 n2
  have hvn := uval_dval _ hq3 (by rw [hlen]; omega)
  rw [← hv] at hvn
  have hle : v.toNat ≤ 9223372036854775808 := by
    have : ¬ (9223372036854775808 : UInt64).toNat < v.toNat := fun h => hv1 (UInt64.lt_iff_toNat_lt.2 h)
    have e : (9223372036854775808 : UInt64).toNat = 9223372036854775808 := rfl
    omega
  refine ⟨by omega, hq2, (s.b.take k.toNat).drop f.toNat, hq3, fun h => by rw [h] at hlen; simp at hlen; omega, by rw [hlen]; omega, ?_⟩
  rcases hf with ⟨h45, hfi⟩ | ⟨h45, hfi⟩
  · right
    have hs := seg_cons (l := s.b) (f := i.toNat) (k := k.toNat) (y := y1) (by omega) (by omega) hy1
    have e : i.toNat + 1 = f.toNat := by omega
    rw [e] at hs
    refine ⟨by rw [hs, h45], ?_, by omega⟩
    obtain ⟨y, hy⟩ : ∃ y, s.b[f.toNat]? = some y := ⟨_, List.getElem?_eq_getElem (by omega)⟩
    have hs2 := seg_cons (l := s.b) (f := f.toNat) (k := k.toNat) (y := y) (by omega) (by omega) hy
    rw [hs2] at hq3 ⊢
    exact dval_pos hq3 (hz h45 y hy)
  · left
    subst hfi
    refine ⟨rfl, ?_⟩
    have h3 := hv2 h45
    have : v.toNat ≠ 9223372036854775808 := fun e => h3 (UInt64.toNat_inj.1 e)
    omega
end Go.Proofs.YtdcdndflfhaejaaDoor
