/- Hexes, strings, signs, and all signs of a text: the lexer's model answers. No condition: general lemmas. -/
import Derived.Test.YtdcdndflfhaejaaDoorLexN
namespace Go.Proofs.YtdcdndflfhaejaaDoor
open Go.Sy
set_option linter.unusedVariables false

theorem hex_tot (s : Str) (i : Int) (h0 : 0 ≤ i) (h1 : i < s.b.length) (hl : s.b.length ≤ 1000000) :
    T (fun (r : Int × Str) => r.1 = -1 ∨ (i < r.1 ∧ r.1 ≤ (s.b.length : Int) ∧ r.2.b.length ≤ s.b.length)) (r04_hex s i) := by
  unfold r04_hex
  refine T.ck (by omega) (T.lp (fun (k : Int) => i + 1 ≤ k ∧ k ≤ (s.b.length : Int)) (fun (k : Int) => ((s.b.length : Int) - k).toNat) ⟨Int.le_refl _, by omega⟩ (by omega) fun L k hk hL => ?_)
  refine T.jp (fun b => b = true → k < s.b.length) (fun J h => T.br (fun h2 => ?_) fun _ => h _ (fun h => by cases h)) fun b hb => ?_
  · have h2 := of_decide_eq_true h2
    refine T.get (by omega) h2 fun y _ => T.eq (digit_eq y) ?_
    refine T.jp (fun _ => True) (fun J2 h3 => T.br (fun _ => h3 _ trivial) fun _ => T.get (by omega) h2 fun y _ => ?_) fun q _ => h _ fun _ => h2
    refine T.jp (fun _ => True) (fun J4 h4 => T.br (fun _ => T.get (by omega) h2 fun _ _ => h4 _ trivial) fun _ => h4 _ trivial) fun q _ => h3 _ trivial
  refine T.br (fun h2 => T.ck (by have := hb h2; omega) (hL _ (by have := hb h2; omega) (by have := hb h2; omega))) fun _ => ?_
  refine T.ck (by omega) (T.asr rfl ?_)
  have hat : ∀ (j : Int) y, y = (if 0 ≤ j then (s.b[j.toNat]?).getD 0 else 0) → y ≠ 0 → 0 ≤ j ∧ j < s.b.length := by
    intro j y hy h0
    split at hy
    · rename_i h3
      refine ⟨h3, ?_⟩
      rcases Nat.lt_or_ge j.toNat s.b.length with h4 | h4
      · omega
      · rw [List.getElem?_eq_none h4] at hy; exact absurd hy h0
    · exact absurd hy h0
  refine T.jp (fun _ => True) (fun J h => T.br (fun _ => h _ trivial) fun _ => T.cal (at_tot s k) fun y _ hy => h _ trivial) fun b1 hb1 => ?_
  refine T.jp (fun b => b = false → k + 1 < s.b.length) (fun J h => T.br (fun _ => h _ (fun h => by cases h)) fun _ => T.ck (by omega) (T.cal (at_tot s (k + 1)) fun y _ hy => h _ fun h4 => ?_)) fun b2 hb2 => ?_
  · have h5 : y = 72 := by simpa using h4
    exact (hat _ _ hy (by rw [h5]; decide)).2
  refine T.br (fun _ => T.some (.inl rfl)) fun h3 => T.ck (by omega) (T.asd ?_ (T.some (.inr ?_)))
  · have := hb2 h3; omega
  · have := hb2 h3
    refine ⟨by dsimp only; omega, by dsimp only; omega, ?_⟩
    simp only [List.length_drop, List.length_take]; omega

theorem quoted_tot (s : Str) (i : Int) (h0 : 0 ≤ i) (h1 : i < s.b.length) (hl : s.b.length ≤ 1000000) :
    T (fun (r : Int × Str) => r.1 = -1 ∨ (i < r.1 ∧ r.1 ≤ (s.b.length : Int) ∧ r.2.b.length ≤ s.b.length)) (r04_quoted s i) := by
  unfold r04_quoted
  refine T.ck (by omega) (T.lp (ι := Int × Str) (fun q => i + 1 ≤ q.1 ∧ q.1 ≤ s.b.length + 1 ∧ (q.2.b.length : Int) < q.1) (fun q => (s.b.length + 1 - q.1).toNat) ⟨Int.le_refl _, by dsimp only; omega, by dsimp only; simp only [List.length_nil]; omega⟩ (by dsimp only; omega) fun L q hq hL => ?_)
  obtain ⟨k, o⟩ := q
  obtain ⟨hq1, hq2, hq3⟩ := hq
  simp only at hq1 hq2 hq3 ⊢
  refine T.br (fun h2 => ?_) fun _ => T.some (.inl rfl)
  have h2 := of_decide_eq_true h2
  refine T.jp (fun (q : Int × Str) => k ≤ q.1 ∧ q.1 < (s.b.length : Int) ∧ (q.2.b.length : Int) < q.1 + 1) (fun J h => ?_) fun q hq => ?_
  · refine T.get (by omega) h2 fun y _ => T.br (fun _ => ?_) fun _ => ?_
    · refine T.ck (by omega) (T.asd (by omega) (T.abl ?_ (h _ ?_)))
      · simp only [List.length_drop, List.length_take]; omega
      · refine ⟨Int.le_refl _, by dsimp only; omega, ?_⟩
        simp only [List.length_append, List.length_drop, List.length_take]; omega
    · refine T.ck (by omega) (T.cal (at_tot s (k + 1)) fun y2 _ hy2 => T.br (fun _ => ?_) fun h34 => ?_)
      · exact T.eq rfl (T.br (fun _ => T.some (.inl rfl)) fun _ => T.ck (by omega) (T.some (.inr ⟨by dsimp only; omega, by dsimp only; omega, by dsimp only; omega⟩)))
      · have hlt : k + 1 < s.b.length := by
          have h5 : y2 = 34 := by simpa using h34
          rw [if_pos (by omega)] at hy2
          rcases Nat.lt_or_ge (k + 1).toNat s.b.length with h4 | h4
          · omega
          · rw [List.getElem?_eq_none h4, h5] at hy2; cases hy2
        refine T.abl ?_ (T.ck (by omega) (h _ ?_))
        · simp only [List.length_cons, List.length_nil]; omega
        · refine ⟨by dsimp only; omega, by dsimp only; omega, ?_⟩
          simp only [List.length_append, List.length_cons, List.length_nil]; omega
  · exact T.ck (by omega) (hL _ ⟨by dsimp only; omega, by dsimp only; omega, hq.2.2⟩ (by dsimp only; omega))

theorem in_string_tot (l : List Str) (x : Str) (hl : l.length ≤ 1000000) : T (fun r => r = decide (x ∈ l)) (h_In_string l x) := by
  unfold h_In_string
  refine T.lp (fun (k : Int) => 0 ≤ k ∧ k ≤ (l.length : Int) ∧ x ∉ l.take k.toNat) (fun (k : Int) => ((l.length : Int) - k).toNat) ⟨Int.le_refl _, by omega, by simp⟩ (by omega) fun L k hk hL => ?_
  refine T.br (fun h2 => ?_) fun h2 => T.some ?_
  · have h2 := of_decide_eq_true h2
    refine T.get hk.1 h2 fun y hy => T.br (fun h3 => T.some ?_) fun h3 => T.ck (by omega) (hL _ ⟨by omega, by omega, ?_⟩ (by omega))
    · have h3 := of_decide_eq_true h3
      subst h3
      exact (decide_eq_true (List.mem_of_getElem? hy)).symm
    · have h3 := of_decide_eq_false h3
      have e : (k + 1).toNat = k.toNat + 1 := by omega
      rw [e, List.take_add_one, hy]
      simp only [Option.toList_some, List.mem_append, List.mem_singleton, not_or]
      exact ⟨hk.2.2, fun h => h3 h.symm⟩
  · have h2 := of_decide_eq_false h2
    have h4 := hk.2.2
    rw [List.take_of_length_le (by omega)] at h4
    exact (decide_eq_false h4).symm

theorem sign_tot (s : Str) (i : Int) (h0 : 0 ≤ i) (h1 : i < s.b.length) (hl : s.b.length ≤ 1000000) : T (fun (r : Int) => 0 ≤ r ∧ i + r ≤ (s.b.length : Int)) (r04_sign s i) := by
  unfold r04_sign
  refine T.asd (by omega) (T.lp (fun (k : Int) => 0 ≤ k) (fun (k : Int) => (13 - k).toNat) (Int.le_refl _) (by omega) fun L k hk hL => ?_)
  refine T.br (fun h2 => ?_) fun _ => T.some ⟨Int.le_refl _, by omega⟩
  have h2 := of_decide_eq_true h2
  have hrest : ((Str.mk ((s.b.take ((s.b.length : Int)).toNat).drop i.toNat)).b.length : Int) = s.b.length - i := by
    simp only [List.length_drop, List.length_take]; omega
  refine T.get hk h2 fun y hy => ?_
  refine T.jp (fun b => b = true → i + (y.b.length : Int) ≤ s.b.length) (fun J h => T.br (fun h3 => ?_) fun _ => h _ (fun h => by cases h)) fun b hb => ?_
  · have h3 := of_decide_eq_true h3
    rw [hrest] at h3
    refine T.asd ⟨Int.le_refl _, by omega, by rw [hrest]; exact h3⟩ (T.get hk h2 fun y2 hy2 => h _ fun _ => by omega)
  · refine T.br (fun h3 => T.some ⟨by omega, hb h3⟩) fun _ => T.ck (by have h2 : k < 13 := h2; omega) (hL _ (by omega) ?_)
    have h2 : k < 13 := h2
    omega

/-- What a sign of the text is. -/
structure TokOk (n : Nat) (t : GTok) : Prop where
  num : t.kind = 3 → NumOk t.text.b
  len : t.text.b.length ≤ n
  at0 : 0 ≤ t.at_ ∧ t.at_ ≤ n
theorem words_len : ∀ r, r04_words = some r → r.length ≤ 1000000 := by
  intro r h
  unfold r04_words at h
  have := Option.some.inj h
  subst this
  decide
theorem word_tot (s : Str) : T (fun _ => True) (r04_Word s) := by
  unfold r04_Word
  refine T.cal (Q := fun _ => True) ⟨_, rfl, trivial⟩ fun y hy _ => T.cal (in_string_tot y s (words_len y hy)) fun _ _ _ => T.some trivial

theorem one_tot (s : Str) (i : Int) (h0 : 0 ≤ i) (h1 : i < s.b.length) (hl : s.b.length ≤ 1000000) :
    T (fun (r : GTok × Int) => r.2 < 0 ∨ (i < r.2 ∧ r.2 ≤ (s.b.length : Int) ∧ TokOk s.b.length r.1 ∧ 1 ≤ r.1.kind ∧ r.1.kind ≤ 7)) (r04_one s i) := by
  unfold r04_one
  refine T.get h0 h1 fun y hy => ?_
  refine T.jp (ι := Int × GTok) (fun (q : Int × GTok) => q.1 < 0 ∨ (i < q.1 ∧ q.1 ≤ (s.b.length : Int) ∧ TokOk s.b.length q.2 ∧ 1 ≤ q.2.kind ∧ q.2.kind ≤ 7)) (fun J h => ?_) fun q hq => T.some hq
  have hsub : ∀ (a b : Nat), ((s.b.take a).drop b).length ≤ s.b.length := fun a b => by rw [List.length_drop, List.length_take]; omega
  refine T.eq (letter_eq y) (T.br (fun hle => ?_) fun _ => T.eq (digit_eq y) ?_)
  · refine T.cal (name_tot s i h0 h1 hl fun y' hy' => by rw [hy] at hy'; cases hy'; exact hle) fun e _ he => T.br (fun _ => T.some (.inl (by dsimp only; omega))) fun hn => ?_
    have hn := of_decide_eq_false hn
    have he' : i < e ∧ e ≤ s.b.length := by omega
    refine T.asd (by omega) (T.jp (ι := GTok) (fun t => (t.kind = 1 ∨ t.kind = 2) ∧ t.text.b.length ≤ s.b.length ∧ t.at_ = i) (fun J2 h2 => T.br (fun _ => h2 _ ⟨.inl rfl, hsub _ _, rfl⟩) fun _ => h2 _ ⟨.inr rfl, hsub _ _, rfl⟩) fun t ht => ?_)
    obtain ⟨ht1, ht2, ht3⟩ := ht
    refine T.cal (word_tot t.text) fun w _ _ => T.br (fun _ => h _ (.inr ⟨he'.1, he'.2, ⟨fun h => by simp at h, ht2, by dsimp only; omega⟩, by simp, by simp⟩)) fun _ => h _ (.inr ⟨he'.1, he'.2, ⟨fun h => by rw [h] at ht1; omega, ht2, by dsimp only; omega⟩, by dsimp only; omega, by dsimp only; omega⟩)
  · refine T.jp (fun _ => True) (fun J2 h2 => T.br (fun _ => h2 _ trivial) fun _ => ?_) fun b _ => ?_
    · refine T.jp (fun _ => True) (fun J3 h3 => T.br (fun _ => T.ck (by omega) (T.cal (at_tot s _) fun y _ _ => T.eq (digit_eq y) (h3 _ trivial))) fun _ => h3 _ trivial) fun _ _ => h2 _ trivial
    refine T.br (fun _ => T.cal (number_tot s i h0 h1 hl) fun e _ he => T.br (fun _ => T.some (.inl (by dsimp only; omega))) fun hn => ?_) fun _ => ?_
    · have hn := of_decide_eq_false hn
      have he' : i < e ∧ e ≤ s.b.length ∧ NumOk ((s.b.take e.toNat).drop i.toNat) := by
        rcases he with h | h
        · omega
        · exact h
      exact T.asd (by omega) (h _ (.inr ⟨he'.1, he'.2.1, ⟨fun _ => he'.2.2, hsub _ _, by dsimp only; omega⟩, by simp, by simp⟩))
    · refine T.br (fun _ => T.cal (hex_tot s i h0 h1 hl) fun e _ he => h _ ?_) fun _ => T.br (fun _ => T.cal (quoted_tot s i h0 h1 hl) fun e _ he => h _ ?_) fun _ => ?_
      · rcases he with h | h
        · left; rw [h]; decide
        · exact .inr ⟨h.1, h.2.1, ⟨fun h => by simp at h, h.2.2, by dsimp only; omega⟩, by simp, by simp⟩
      · rcases he with h | h
        · left; rw [h]; decide
        · exact .inr ⟨h.1, h.2.1, ⟨fun h => by simp at h, h.2.2, by dsimp only; omega⟩, by simp, by simp⟩
      · refine T.cal (sign_tot s i h0 h1 hl) fun e _ he => T.br (fun hp => ?_) fun _ => h _ (.inl (by dsimp only; omega))
        have hp := of_decide_eq_true hp
        exact T.ck (by omega) (T.asd (by omega) (T.ck (by omega) (h _ (.inr ⟨by dsimp only; omega, by dsimp only; omega, ⟨fun h => by simp at h, hsub _ _, by dsimp only; omega⟩, by simp, by simp⟩))))

/-- All signs of a text: the last one is the end. -/
structure ToksOk (l : List GTok) : Prop where
  len : l.length ≤ 8001
  ok : ∀ t ∈ l, TokOk 8000 t
  last : ∃ m e, l = m ++ [e] ∧ e.kind = 0 ∧ ∀ t ∈ m, 1 ≤ t.kind ∧ t.kind ≤ 7

theorem tokens_tot (s : Str) : T (fun r => r.2.2 = 0 → ToksOk r.1) (r04_Tokens s) := by
  unfold r04_Tokens
  refine T.br (fun _ => T.some (fun h => by cases h)) fun hl => ?_
  have hl := of_decide_eq_false hl
  refine T.lp (ι := List GTok × Int) (fun (q : List GTok × Int) => 0 ≤ q.2 ∧ q.2 ≤ (s.b.length : Int) ∧ (q.1.length : Int) ≤ q.2 ∧ (∀ t ∈ q.1, TokOk 8000 t ∧ 1 ≤ t.kind ∧ t.kind ≤ 7)) (fun (q : List GTok × Int) => ((s.b.length : Int) - q.2).toNat) ⟨Int.le_refl _, by dsimp only; omega, by simp, by simp⟩ (by dsimp only; omega) fun L q hq hL => ?_
  obtain ⟨l, k⟩ := q
  obtain ⟨h1, h2, h3, h4⟩ := hq
  simp only at h1 h2 h3 h4 ⊢
  refine T.cal (white_tot s k h1 h2 (by omega)) fun e _ he => T.br (fun _ => ?_) fun hb => ?_
  · refine T.abl (by simp only [List.length_cons, List.length_nil]; omega) (T.some fun _ => ⟨?_, ?_, ⟨l, _, rfl, rfl, fun t ht => (h4 t ht).2⟩⟩)
    · simp only [List.length_append, List.length_cons, List.length_nil]; omega
    · intro t ht
      rcases List.mem_append.1 ht with h | h
      · exact (h4 t h).1
      · rw [List.mem_singleton.1 h]; exact ⟨fun h => by simp at h, by simp, by dsimp only; omega⟩
  · have hb := of_decide_eq_false hb
    refine T.cal (one_tot s e (by omega) (by omega) (by omega)) fun r _ hr => T.br (fun _ => T.some (fun h => by cases h)) fun hn => ?_
    have hn := of_decide_eq_false hn
    rcases hr with h | ⟨r1, r2, r3, r4, r5⟩
    · exact absurd h hn
    refine T.abl (by simp only [List.length_cons, List.length_nil]; omega) (hL _ ⟨by dsimp only; omega, by dsimp only; omega, ?_, fun t ht => ?_⟩ (by dsimp only; omega))
    · simp only [List.length_append, List.length_cons, List.length_nil]; omega
    · rcases List.mem_append.1 ht with h | h
      · exact h4 t h
      · rw [List.mem_singleton.1 h]; exact ⟨⟨r3.num, by have := r3.len; omega, by have := r3.at0; omega⟩, r4, r5⟩
end Go.Proofs.YtdcdndflfhaejaaDoor
