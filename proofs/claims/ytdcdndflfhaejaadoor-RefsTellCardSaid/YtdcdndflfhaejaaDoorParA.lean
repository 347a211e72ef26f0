/- The parser's small functions: they answer, and go on. No condition: general lemmas. -/
import Derived.Test.YtdcdndflfhaejaaDoorLexO
namespace Go.Proofs.YtdcdndflfhaejaaDoor
open Go.Sy
set_option linter.unusedVariables false

/-- A parser among these signs, with this module so far; where it has no error: a condition holds, and it stands at or behind a place. -/
structure Ok (l : List GTok) (m : GMod) (a : Int) (P : Prop) (y : GPar) : Prop where
  toks : ToksOk l
  yl : y.l = l
  ym : y.m = m
  a0 : 0 ≤ y.at_
  a1 : y.at_ < l.length
  ok : y.e = 0 → P ∧ a ≤ y.at_
theorem Ok.to {l m a P y} {a' : Int} {P' : Prop} (h : Ok l m a P y) (k : y.e = 0 → P → a ≤ y.at_ → P' ∧ a' ≤ y.at_) : Ok l m a' P' y := ⟨h.toks, h.yl, h.ym, h.a0, h.a1, fun e => k e (h.ok e).1 (h.ok e).2⟩
theorem Ok.err {l m a P y} {a' : Int} {P' : Prop} (h : Ok l m a P y) (k : ¬ y.e = 0) : Ok l m a' P' y := h.to fun e => absurd e k

/-- The sign that comes. -/
def Tk (x : GPar) (t : GTok) : Prop := x.l[x.at_.toNat]? = some t
theorem Tk.ok {l m a P x t} (h : Ok l m a P x) (ht : Tk x t) : TokOk 8000 t := by
  unfold Tk at ht
  rw [h.yl] at ht
  exact h.toks.ok t (List.mem_of_getElem? ht)
theorem Tk.last {l m a P x t} (h : Ok l m a P x) (ht : Tk x t) (hk : t.kind ≠ 0) : x.at_ + 1 < l.length := by
  unfold Tk at ht
  rw [h.yl] at ht
  obtain ⟨m', e, h1, h2, h3⟩ := h.toks.last
  rcases Nat.lt_or_ge (x.at_.toNat + 1) l.length with h4 | h4
  · have := h.a0; omega
  · exfalso
    have h5 := h.a1
    have h6 := h.a0
    have h7 : x.at_.toNat = m'.length := by rw [h1] at h4 h5; simp only [List.length_append, List.length_singleton] at h4 h5; omega
    rw [h1, h7, List.getElem?_append_right (Nat.le_refl _)] at ht
    simp at ht
    subst ht
    exact hk h2

theorem now_tot {l m a P x} (h : Ok l m a P x) : T (fun r => Tk x r.1 ∧ r.2 = x) (r05_parser_now x) := by
  unfold r05_parser_now
  refine T.get h.a0 (by rw [h.yl]; exact h.a1) fun y hy => T.some ⟨hy, rfl⟩
theorem fail_tot {l m a P x} (e : Int) (t : GTok) (h : Ok l m a P x) (he : e ≠ 0) : T (fun r => Ok l m a P r ∧ r.e ≠ 0) (r05_parser_fail x e t) := by
  unfold r05_parser_fail
  refine T.br (fun h1 => T.some ⟨⟨h.toks, h.yl, h.ym, h.a0, h.a1, fun h2 => absurd h2 he⟩, he⟩) fun h1 => T.some ⟨h, of_decide_eq_false h1⟩
theorem next_tot {l m a P x} (h : Ok l m a P x) : T (fun r => Tk x r.1 ∧ Ok l m a P r.2 ∧ (r.1.kind ≠ 0 → r.2.at_ = x.at_ + 1) ∧ r.2.e = x.e) (r05_parser_next x) := by
  unfold r05_parser_next
  have hl := h.toks.len
  have h1 := h.a0
  have h2 := h.a1
  refine T.get h.a0 (by rw [h.yl]; exact h.a1) fun y hy => T.ck (by omega) (T.jp (fun r => Ok l m a P r ∧ (y.kind ≠ 0 → r.at_ = x.at_ + 1) ∧ r.e = x.e) (fun J k => T.br (fun h3 => ?_) fun h3 => k _ ?_) fun q hq => T.some ⟨hy, hq⟩)
  · have h3 := of_decide_eq_true h3
    rw [h.yl] at h3
    refine T.ck (by omega) (k _ ⟨⟨h.toks, h.yl, h.ym, by dsimp only; omega, h3, fun e => ?_⟩, fun _ => rfl, rfl⟩)
    have := h.ok e
    exact ⟨this.1, by dsimp only; omega⟩
  · have h3 := of_decide_eq_false h3
    rw [h.yl] at h3
    exact ⟨h, fun hk => absurd (Tk.last h hy hk) h3, rfl⟩
theorem kind_tot {l m a P x} (k : Int) (hk : 1 ≤ k) (h : Ok l m a P x) : T (fun r => Ok l m a P r.2 ∧ (r.2.e = 0 → x.e = 0 ∧ r.2.at_ = x.at_ + 1 ∧ ∃ t, Tk x t ∧ t.kind = k ∧ r.1 = t.text) ∧ (r.2.e ≠ 0 → r.1 = ⟨[]⟩)) (r05_parser_kind x k) := by
  unfold r05_parser_kind
  refine T.cal (now_tot h) fun ⟨t, x'⟩ _ ⟨ht, hx⟩ => ?_
  subst hx
  dsimp only at ht ⊢
  refine T.jp (fun b => b = false → x'.e = 0 ∧ t.kind = k) (fun J h1 => T.br (fun _ => h1 _ fun h => by cases h) fun h2 => h1 _ fun h3 => ⟨by simpa using h2, by simpa using h3⟩) fun b hb => T.br (fun _ => ?_) fun h2 => ?_
  · exact T.cal (fail_tot _ _ h (by decide)) fun y _ hy => T.some ⟨hy.1, fun e => absurd e hy.2, fun _ => rfl⟩
  · obtain ⟨h3, h4⟩ := hb h2
    refine T.cal (next_tot h) fun y _ hy => T.some ⟨hy.2.1, fun e => ⟨h3, ?_, t, ht, h4, ?_⟩, fun e => absurd (hy.2.2.2.trans h3) e⟩
    · have : y.1 = t := by have := hy.1; unfold Tk at this ht; rw [ht] at this; cases this; rfl
      exact hy.2.2.1 (by rw [this]; omega)
    · have : y.1 = t := by have := hy.1; unfold Tk at this ht; rw [ht] at this; cases this; rfl
      rw [this]
theorem is_tot {l m a P x} (s : Str) (h : Ok l m a P x) : T (fun r => Ok l m a P r.2 ∧ r.2.e = x.e ∧ (r.1 = true → x.e = 0 ∧ r.2.at_ = x.at_ + 1) ∧ (r.1 = false → r.2 = x)) (r05_parser_is x s) := by
  unfold r05_parser_is
  refine T.cal (now_tot h) fun ⟨t, x'⟩ _ ⟨ht, hx⟩ => ?_
  subst hx
  dsimp only at ht ⊢
  refine T.jp (fun b => b = true → x'.e = 0 ∧ t.kind ≠ 0) (fun J h1 => T.br (fun h2 => ?_) fun _ => h1 _ fun h => by cases h) fun b hb => ?_
  · have h2 := of_decide_eq_true h2
    refine T.jp (fun b => b = true → t.kind ≠ 0) (fun J h3 => T.br (fun h4 => h3 _ fun _ => by have := of_decide_eq_true h4; omega) fun _ => h3 _ fun h => by have := of_decide_eq_true h; omega) fun b hb => h1 _ fun h => ⟨h2, hb h⟩
  · refine T.jp (fun b => b = true → x'.e = 0 ∧ t.kind ≠ 0) (fun J h1 => T.br (fun h2 => h1 _ fun _ => hb h2) fun _ => h1 _ fun h => by cases h) fun b2 hb2 => T.br (fun h2 => ?_) fun _ => T.some ⟨h, rfl, (fun h => by cases h), fun _ => rfl⟩
    obtain ⟨h3, h4⟩ := hb2 h2
    refine T.cal (next_tot h) fun y _ hy => T.some ⟨hy.2.1, hy.2.2.2, fun _ => ⟨h3, ?_⟩, fun h => by cases h⟩
    have : y.1 = t := by have := hy.1; unfold Tk at this ht; rw [ht] at this; cases this; rfl
    exact hy.2.2.1 (by rw [this]; exact h4)
theorem must_tot {l m a P x} (s : Str) (h : Ok l m a P x) : T (fun r => Ok l m a P r ∧ (r.e = 0 → x.e = 0 ∧ r.at_ = x.at_ + 1)) (r05_parser_must x s) := by
  unfold r05_parser_must
  refine T.jp (fun q => Ok l m a P q.2 ∧ (q.2.e = 0 → x.e = 0) ∧ (q.1 = false → q.2.e = 0 → q.2.at_ = x.at_ + 1)) (fun J h1 => T.br (fun h2 => T.cal (is_tot s h) fun y _ hy => h1 _ ⟨hy.1, fun _ => of_decide_eq_true h2, fun h3 _ => (hy.2.2.1 (by simpa using h3)).2⟩) fun h2 => h1 _ ⟨h, fun h => h, fun _ h3 => absurd h3 (of_decide_eq_false h2)⟩) fun q hq => T.br (fun h2 => ?_) fun h2 => T.some ⟨hq.1, fun h3 => ⟨hq.2.1 h3, hq.2.2 h2 h3⟩⟩
  refine T.cal (now_tot hq.1) fun ⟨t, x'⟩ _ ⟨ht, hx⟩ => ?_
  subst hx
  exact T.cal (fail_tot _ _ hq.1 (by decide)) fun y _ hy => T.some ⟨hy.1, fun e => absurd e hy.2⟩
theorem begins_tot (t : GTok) : T (fun _ => True) (r05_begins t) := by
  unfold r05_begins
  refine T.lp (fun (k : Int) => 0 ≤ k) (fun (k : Int) => (10 - k).toNat) (Int.le_refl _) (by omega) fun L k hk hL => ?_
  refine T.br (fun h2 => ?_) fun _ => T.some trivial
  have h2 : k < 10 := of_decide_eq_true h2
  refine T.get hk h2 fun y _ => T.jp (fun _ => True) (fun J h3 => T.br (fun _ => T.jp (fun _ => True) (fun J4 h4 => T.br (fun _ => h4 _ trivial) fun _ => h4 _ trivial) fun _ _ => h3 _ trivial) fun _ => h3 _ trivial) fun q _ => T.br (fun _ => T.some trivial) fun _ => T.ck (by omega) (hL _ (by omega) (by omega))
end Go.Proofs.YtdcdndflfhaejaaDoor
