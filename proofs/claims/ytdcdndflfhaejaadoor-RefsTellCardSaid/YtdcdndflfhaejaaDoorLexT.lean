/- The lexer's model answers, and what its signs are. No condition: general lemmas. -/
import Derived.Test.YtdcdndflfhaejaaDoorMod
import Derived.Test.YtdcdndflfhaejaaDoorTot
namespace Go.Proofs.YtdcdndflfhaejaaDoor
open Go.Sy
set_option linter.unusedVariables false

theorem at_tot (s : Str) (i : Int) : T (fun r => r = (if 0 ≤ i then (s.b[i.toNat]?).getD 0 else 0)) (r04_at s i) := by
  unfold r04_at
  refine T.jp (fun q => q = decide (¬ (0 ≤ i ∧ i < s.b.length))) (fun J h => ?_) (fun q hq => ?_)
  · refine T.br (fun h1 => h _ ?_) (fun h1 => h _ ?_)
    · have := of_decide_eq_true h1; simp; omega
    · have := of_decide_eq_false h1
      by_cases h2 : (s.b.length : Int) ≤ i <;> simp [h2] <;> omega
  · subst hq
    refine T.br (fun h1 => T.some ?_) (fun h1 => ?_)
    · have h2 := of_decide_eq_true h1
      split
      · rename_i h3
        rw [List.getElem?_eq_none (by omega)]; rfl
      · rfl
    · have h2 := of_decide_eq_false h1
      refine T.get (by omega) (by omega) fun y hy => T.some ?_
      rw [if_pos (by omega), hy]; rfl

def isLetter (c : UInt8) : Bool := (decide (97 ≤ c) && decide (c ≤ 122)) || (decide (65 ≤ c) && decide (c ≤ 90))
def isDigit (c : UInt8) : Bool := decide (48 ≤ c) && decide (c ≤ 57)
theorem letter_eq (c : UInt8) : r04_letter c = some (isLetter c) := by
  unfold r04_letter isLetter jp br
  cases decide (97 ≤ c) <;> cases decide (c ≤ 122) <;> cases decide (65 ≤ c) <;> cases decide (c ≤ 90) <;> rfl
theorem digit_eq (c : UInt8) : r04_digit c = some (isDigit c) := by
  unfold r04_digit isDigit jp br
  cases decide (48 ≤ c) <;> cases decide (c ≤ 57) <;> rfl

theorem white_tot (s : Str) (i : Int) (h0 : 0 ≤ i) (h1 : i ≤ s.b.length) (hl : s.b.length ≤ 1000000) : T (fun r => i ≤ r ∧ r ≤ s.b.length) (r04_white s i) := by
  unfold r04_white
  refine T.lp (fun k => i ≤ k ∧ k ≤ s.b.length) (fun k => (s.b.length - k).toNat) ⟨Int.le_refl _, h1⟩ (by omega) fun L k hk hL => ?_
  refine T.br (fun hb => ?_) (fun _ => T.some hk)
  have hb := of_decide_eq_true hb
  refine T.get (by omega) hb fun y hy => ?_
  refine T.jp (fun _ => True) (fun J h => T.br (fun _ => h _ trivial) fun _ => T.get (by omega) hb fun _ _ => h _ trivial) fun q _ => ?_
  refine T.jp (fun _ => True) (fun J h => T.br (fun _ => h _ trivial) fun _ => T.get (by omega) hb fun _ _ => h _ trivial) fun q _ => ?_
  refine T.jp (fun _ => True) (fun J h => T.br (fun _ => h _ trivial) fun _ => T.get (by omega) hb fun _ _ => h _ trivial) fun q _ => ?_
  refine T.br (fun _ => T.ck (by omega) (hL _ (by omega) (by omega))) fun _ => ?_
  refine T.get (by omega) hb fun y hy => ?_
  refine T.jp (fun q => q = true → k + 2 ≤ s.b.length) (fun J h => T.br (fun _ => T.ck (by omega) (T.cal (at_tot s (k + 1)) fun y _ hy => h _ fun hq => ?_)) fun _ => h _ (fun h => by cases h)) fun q hq => ?_
  · have := of_decide_eq_true hq
    subst this
    rw [if_pos (by omega)] at hy
    rcases Nat.lt_or_ge (k + 1).toNat s.b.length with h3 | h3
    · omega
    · rw [List.getElem?_eq_none h3] at hy; cases hy
  refine T.br (fun hb2 => T.ck (by omega) ?_) (fun _ => T.some hk)
  have hq' := hq hb2
  refine T.lp (fun j => k + 2 ≤ j ∧ j ≤ s.b.length) (fun j => (s.b.length - j).toNat) ⟨Int.le_refl _, hq'⟩ (by omega) fun L2 j hj hL2 => ?_
  refine T.jp (fun q => q = true → j < s.b.length) (fun J h => T.br (fun h2 => ?_) fun _ => h _ (fun h => by cases h)) fun q hq2 => ?_
  · have h2 := of_decide_eq_true h2
    exact T.get (by omega) h2 fun _ _ => h _ fun _ => h2
  refine T.br (fun h2 => ?_) (fun _ => hL _ (by omega) (by omega))
  have h2 := hq2 h2
  refine T.get (by omega) h2 fun y hy => ?_
  refine T.jp (fun q => q = true → j + 2 ≤ s.b.length) (fun J h => T.br (fun _ => T.ck (by omega) (T.cal (at_tot s (j + 1)) fun y _ hy => h _ fun hq => ?_)) fun _ => h _ (fun h => by cases h)) fun q hq3 => ?_
  · have := of_decide_eq_true hq
    subst this
    rw [if_pos (by omega)] at hy
    rcases Nat.lt_or_ge (j + 1).toNat s.b.length with h3 | h3
    · omega
    · rw [List.getElem?_eq_none h3] at hy; cases hy
  refine T.br (fun h3 => T.ck (by omega) ?_) (fun _ => T.ck (by omega) (hL2 _ (by omega) (by omega)))
  have h3 := hq3 h3
  exact hL _ (by omega) (by omega)

theorem name_tot (s : Str) (i : Int) (h0 : 0 ≤ i) (h1 : i < s.b.length) (hl : s.b.length ≤ 1000000) (hc : ∀ y, s.b[i.toNat]? = some y → isLetter y = true) : T (fun r => r = -1 ∨ (i < r ∧ r ≤ s.b.length)) (r04_name s i) := by
  unfold r04_name
  refine T.lp (fun k => i ≤ k ∧ k ≤ s.b.length) (fun k => (s.b.length - k).toNat) ⟨Int.le_refl _, by omega⟩ (by omega) fun L k hk hL => ?_
  refine T.jp (fun q => (q = true → k < s.b.length) ∧ (q = false → i < k)) (fun J h => ?_) fun q hq => ?_
  · refine T.br (fun hb => ?_) (fun hb => h _ ⟨(fun h => by cases h), fun _ => by have := of_decide_eq_false hb; omega⟩)
    have hb := of_decide_eq_true hb
    refine T.get (by omega) hb fun y hy => ?_
    refine T.eq (letter_eq y) ?_
    refine T.jp (fun q => isLetter y = true → q = true) (fun J2 h2 => ?_) fun q hq => ?_
    · exact T.br (fun _ => h2 _ fun _ => rfl) fun hn => T.get (by omega) hb fun y2 _ => T.eq (digit_eq y2) (h2 _ fun hy => by rw [hn] at hy; cases hy)
    refine T.jp (fun q => isLetter y = true → q = true) (fun J2 h2 => ?_) fun q hq => ?_
    · refine T.br (fun _ => h2 _ fun _ => rfl) fun hn => T.get (by omega) hb fun y2 _ => ?_
      have hno : ¬ isLetter y = true := fun hy => by rw [hq hy] at hn; cases hn
      refine T.jp (fun _ => True) (fun J3 h3 => T.br (fun _ => T.ck (by omega) (T.cal (at_tot s _) fun _ _ _ => h3 _ trivial)) fun _ => h3 _ trivial) fun q _ => h2 _ fun hy => absurd hy hno
    · refine h _ ⟨fun _ => hb, fun hn => ?_⟩
      rcases Int.lt_or_eq_of_le hk.1 with h2 | h2
      · exact h2
      · subst h2
        have := hq (hc y hy)
        rw [this] at hn; cases hn
  refine T.br (fun hb => T.ck (by have := hq.1 hb; omega) (hL _ (by have := hq.1 hb; omega) (by have := hq.1 hb; omega))) fun hb => ?_
  have hlt := hq.2 hb
  refine T.ck (by omega) (T.get (by omega) (by omega) fun y _ => ?_)
  refine T.jp (fun _ => True) (fun J h => T.br (fun _ => h _ trivial) fun _ => T.ck (by omega) (h _ trivial)) fun q _ => ?_
  exact T.br (fun _ => T.some (.inl rfl)) fun _ => T.some (.inr ⟨hlt, hk.2⟩)
end Go.Proofs.YtdcdndflfhaejaaDoor
