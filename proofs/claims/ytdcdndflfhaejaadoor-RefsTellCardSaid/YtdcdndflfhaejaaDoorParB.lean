/- Numbers, bounds, items and values: the parser answers. No condition: general lemmas. -/
import Derived.Test.YtdcdndflfhaejaaDoorParA
namespace Go.Proofs.YtdcdndflfhaejaaDoor
open Go.Sy
set_option linter.unusedVariables false

theorem whole_tot (s : Str) (h : NumOk s.b) : T (fun r => -9223372036854775808 ≤ r ∧ r ≤ 9223372036854775807) (r05_Whole s) := by
  obtain ⟨ds, hd, hne, hlen, hv⟩ := h
  unfold r05_Whole
  have hlb : s.b.length ≤ 20 ∧ 0 < s.b.length := by
    have : 0 < ds.length := List.length_pos_iff.2 hne
    rcases hv with ⟨h1, _⟩ | ⟨h1, _⟩
    · rw [h1]; omega
    · rw [h1]; simp only [List.length_cons]; omega
  refine T.get (Int.le_refl _) (by omega) fun y1 hy1 => ?_
  refine T.jp (fun q => q.b = ds ∧ (y1 = 45 → 1 ≤ dval ds ∧ dval ds ≤ 9223372036854775808) ∧ (y1 ≠ 45 → dval ds < 9223372036854775808)) (fun J k => T.br (fun h1 => ?_) fun h1 => k _ ?_) fun q hq => ?_
  · have h1 := of_decide_eq_true h1
    refine T.asd (by omega) (k _ ?_)
    rcases hv with ⟨h2, h3⟩ | ⟨h2, h3⟩
    · exfalso
      rw [h2] at hy1
      have := digit_range (hd y1 (List.mem_of_getElem? hy1))
      rw [h1] at this
      have e : (45 : UInt8).toNat = 45 := rfl
      omega
    · refine ⟨?_, fun _ => h3, fun h => absurd h1 h⟩
      dsimp only
      rw [h2]
      simp
  · have h1 := of_decide_eq_false h1
    rcases hv with ⟨h2, h3⟩ | ⟨h2, h3⟩
    · exact ⟨h2, fun h => absurd h h1, fun _ => h3⟩
    · rw [h2] at hy1
      simp at hy1
      exact absurd hy1.symm h1
  · obtain ⟨q1, q2, q3⟩ := hq
    refine T.lp (fun (p : UInt64 × Int) => 0 ≤ p.2 ∧ p.2 ≤ (ds.length : Int) ∧ p.1 = uval (ds.take p.2.toNat)) (fun (p : UInt64 × Int) => ((ds.length : Int) - p.2).toNat) ⟨Int.le_refl _, by dsimp only; omega, rfl⟩ (by dsimp only; omega) fun L p hp hL => ?_
    obtain ⟨v, k⟩ := p
    obtain ⟨p1, p2, p3⟩ := hp
    dsimp only at p1 p2 p3 ⊢
    rw [q1]
    refine T.br (fun h1 => ?_) fun h1 => ?_
    · have h1 := of_decide_eq_true h1
      refine T.get p1 h1 fun y hy => T.ck (by omega) (hL _ ⟨by dsimp only; omega, by dsimp only; omega, ?_⟩ (by dsimp only; omega))
      have e : (k + 1).toNat = k.toNat + 1 := by omega
      dsimp only
      rw [e, List.take_add_one, hy, Option.toList_some, uval_snoc, p3]
    · have h1 := of_decide_eq_false h1
      rw [List.take_of_length_le (by omega)] at p3
      have hn := uval_dval ds hd hlen
      rw [← p3] at hn
      refine T.br (fun h2 => ?_) fun h2 => ?_
      · have h3 := q2 (of_decide_eq_true h2)
        have e : (v - 1).toNat = dval ds - 1 := by
          have e1 : (1 : UInt64).toNat = 1 := rfl
          rw [UInt64.toNat_sub_of_le v 1 (by rw [UInt64.le_iff_toNat_le, e1]; omega), e1, hn]
        rw [e]
        exact T.ck (by omega) (T.ck (by omega) (T.ck (by omega) (T.some (by omega))))
      · have h3 := q3 (of_decide_eq_false h2)
        exact T.ck (by omega) (T.some (by omega))
theorem number_ok {l m a P x} (h : Ok l m a P x) : T (fun r => Ok l m a P r.2 ∧ (r.2.e = 0 → x.e = 0 ∧ r.2.at_ = x.at_ + 1) ∧ -9223372036854775808 ≤ r.1 ∧ r.1 ≤ 9223372036854775807) (r05_parser_number x) := by
  unfold r05_parser_number
  refine T.cal (kind_tot 3 (by decide) h) fun r _ hr => T.br (fun h2 => T.some ⟨hr.1, fun e => ⟨(hr.2.1 e).1, (hr.2.1 e).2.1⟩, by dsimp only; omega, by dsimp only; omega⟩) fun h2 => ?_
  have h2 := of_decide_eq_false h2
  by_cases he : r.2.e = 0
  · obtain ⟨h3, h4, t, h5, h6, h7⟩ := hr.2.1 he
    refine T.cal (whole_tot r.1 (by rw [h7]; exact (Tk.ok h h5).num h6)) fun v _ hv => T.some ⟨hr.1, fun e => ⟨h3, h4⟩, hv⟩
  · exact absurd (hr.2.2 he) h2
theorem bounds_tot {l m a P x} (h : Ok l m a P x) : T (fun r => Ok l m a P r.2 ∧ (r.2.e = 0 → x.e = 0)) (r05_parser_bounds x) := by
  unfold r05_parser_bounds
  refine T.cal (is_tot _ h) fun r _ hr => T.jp (fun q => Ok l m a P q.1 ∧ (q.1.e = 0 → x.e = 0)) (fun J k => T.br (fun _ => T.cal (number_ok hr.1) fun s _ hs => k _ ⟨hs.1, fun e => hr.2.1 ▸ (hs.2.1 e).1⟩) fun _ => k _ ⟨hr.1, fun e => hr.2.1 ▸ e⟩) fun q hq => ?_
  refine T.jp (fun q => Ok l m a P q.1 ∧ (q.1.e = 0 → x.e = 0)) (fun J k => T.cal (is_tot _ hq.1) fun s _ hs => T.br (fun _ => T.cal (is_tot _ hs.1) fun u _ hu => T.br (fun _ => T.cal (number_ok hu.1) fun v _ hv => k _ ⟨hv.1, fun e => hq.2 (hs.2.1 ▸ hu.2.1 ▸ (hv.2.1 e).1)⟩) fun _ => k _ ⟨hu.1, fun e => hq.2 (hs.2.1 ▸ hu.2.1 ▸ e)⟩) fun _ => T.br (fun _ => k _ ⟨hs.1, fun e => hq.2 (hs.2.1 ▸ e)⟩) fun _ => k _ ⟨hs.1, fun e => hq.2 (hs.2.1 ▸ e)⟩) fun q2 hq2 => ?_
  refine T.cal (is_tot _ hq2.1) fun s _ hs => T.jp (fun q => Ok l m a P q.1 ∧ (q.1.e = 0 → x.e = 0)) (fun J k => T.br (fun _ => T.cal (must_tot _ hs.1) fun u _ hu => k _ ⟨hu.1, fun e => hq2.2 (hs.2.1 ▸ (hu.2 e).1)⟩) fun _ => k _ ⟨hs.1, fun e => hq2.2 (hs.2.1 ▸ e)⟩) fun q3 hq3 => T.some hq3
theorem size_tot {l m a P x} (h : Ok l m a P x) : T (fun r => Ok l m a P r.2 ∧ (r.2.e = 0 → x.e = 0)) (r05_parser_size x) := by
  unfold r05_parser_size
  refine T.cal (is_tot _ h) fun r _ hr => T.br (fun _ => T.some ⟨hr.1, fun e => hr.2.1 ▸ e⟩) fun _ => ?_
  refine T.cal (must_tot _ hr.1) fun y1 _ h1 => T.cal (must_tot _ h1.1) fun y2 _ h2 => T.cal (bounds_tot h2.1) fun y3 _ h3 => T.cal (must_tot _ h3.1) fun y4 _ h4 => T.cal (must_tot _ h4.1) fun y5 _ h5 => T.some ⟨h5.1, fun e => ?_⟩
  exact hr.2.1 ▸ (h1.2 (h2.2 (h3.2 (h4.2 (h5.2 e).1).1)).1).1

/-- Only items, root and more are other. -/
structure SameN (n n' : GNode) : Prop where
  kind : n'.kind = n.kind
  fields : n'.fields = n.fields
  of : n'.of = n.of
theorem items_tot {l m a P x} (n : GNode) (h : Ok l m a P x) (hn : n.items = []) : T (fun r => Ok l m a P r.1 ∧ (r.1.e = 0 → x.e = 0) ∧ SameN n r.2) (r05_parser_items x n) := by
  unfold r05_parser_items
  have hl := h.toks.len
  refine T.jp (fun q => Ok l m a P q.1 ∧ (q.1.e = 0 → x.e = 0) ∧ SameN n q.2) (fun J k => ?_) fun q hq => T.br (fun _ => T.some ⟨hq.1, hq.2.1, ⟨hq.2.2.kind, hq.2.2.fields, hq.2.2.of⟩⟩) fun _ => T.some hq
  have ha0 := h.a0
  have ha1 := h.a1
  refine T.lp (fun (q : GPar × GNode) => Ok l m a P q.1 ∧ (q.1.e = 0 → x.e = 0) ∧ SameN n q.2 ∧ (q.2.items.length : Int) ≤ q.1.at_) (fun (q : GPar × GNode) => ((l.length : Int) - q.1.at_).toNat) ⟨h, fun e => e, ⟨rfl, rfl, rfl⟩, by dsimp only; rw [hn]; simpa using ha0⟩ (by dsimp only; omega) fun L q hq hL => ?_
  obtain ⟨y, n1⟩ := q
  obtain ⟨h1, h2, h3, h4⟩ := hq
  dsimp only at h1 h2 h3 h4 ⊢
  refine T.br (fun he => ?_) fun _ => k _ ⟨h1, h2, h3⟩
  have he := of_decide_eq_true he
  refine T.jp (fun _ => True) (fun J2 k2 => T.br (fun _ => k2 _ trivial) fun _ => k2 _ trivial) fun b _ => ?_
  refine T.jp (fun (q : Bool × GPar) => Ok l m a P q.2 ∧ q.2.e = y.e ∧ (q.1 = true → q.2.at_ = y.at_ + 1) ∧ (q.1 = false → q.2.at_ = y.at_)) (fun J3 k3 => T.br (fun _ => T.cal (is_tot _ h1) fun r _ hr => k3 _ ⟨hr.1, hr.2.1, fun e => (hr.2.2.1 e).2, fun e => by rw [hr.2.2.2 e]⟩) fun _ => k3 _ ⟨h1, rfl, (fun h => by cases h), fun _ => rfl⟩) fun q3 hq3 => ?_
  refine T.jp (fun (q : GPar × GNode) => Ok l m a P q.1 ∧ (q.1.e = 0 → q.1.at_ ≥ y.at_ + 1) ∧ SameN n q.2 ∧ (q.2.items.length : Int) ≤ y.at_ + 1) (fun J4 k4 => T.br (fun hb => k4 _ ⟨hq3.1, fun _ => by dsimp only; rw [hq3.2.2.1 hb]; omega, ⟨h3.kind, h3.fields, h3.of⟩, by dsimp only; omega⟩) fun hb => ?_) fun q4 hq4 => ?_
  · have hq5 := hq3.2.2.2 hb
    refine T.cal (kind_tot 2 (by decide) hq3.1) fun r _ hr => T.cal (is_tot _ hr.1) fun s _ hs => T.jp (fun (q : GPar × GItem) => Ok l m a P q.1 ∧ (q.1.e = 0 → r.2.e = 0 ∧ q.1.at_ ≥ r.2.at_)) (fun J5 k5 => T.br (fun hb2 => T.cal (number_ok hs.1) fun u _ hu => T.cal (must_tot _ hu.1) fun w _ hw => k5 _ ⟨hw.1, fun e => ?_⟩) fun hb2 => k5 _ ⟨hs.1, fun e => ⟨hs.2.1 ▸ e, by dsimp only; rw [hs.2.2.2 hb2]; omega⟩⟩) fun q5 hq5' => T.abl ?_ (k4 _ ⟨hq5'.1, fun e => ?_, ⟨h3.kind, h3.fields, h3.of⟩, ?_⟩)
    · have e1 := hw.2 e
      have e2 := hu.2.1 e1.1
      have e3 := hs.2.2.1 hb2
      exact ⟨e3.1, by dsimp only at e ⊢; omega⟩
    · have h9 := h1.a1
      simp only [List.length_singleton]; omega
    · have e1 := hq5'.2 e
      have e2 := hr.2.1 e1.1
      dsimp only at e ⊢
      omega
    · simp only [List.length_append, List.length_singleton]; omega
  · refine T.cal (is_tot _ hq4.1) fun r _ hr => T.br (fun hb => k _ ⟨hr.1, fun _ => h2 he, hq4.2.2.1⟩) fun hb => ?_
    have hb : r.1 = true := by simpa using hb
    have e1 := hr.2.2.1 hb
    have e2 := hq4.2.1 e1.1
    have e3 := hr.1.a1
    exact hL _ ⟨hr.1, fun _ => h2 he, hq4.2.2.1, by dsimp only; omega⟩ (by dsimp only; omega)
end Go.Proofs.YtdcdndflfhaejaaDoor
