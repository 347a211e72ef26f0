/- Types, their bases, and whole modules: the parser answers, and what it lays down is a forest. No condition: general lemmas. -/
import Derived.Test.YtdcdndflfhaejaaDoorParD
namespace Go.Proofs.YtdcdndflfhaejaaDoor
open Go.Sy
set_option linter.unusedVariables false

theorem kidsOf_nil {n : GNode} (h : n.fields = []) (hk : n.kind ≠ 10) : kidsOf n = [] := by
  unfold kidsOf; rw [h, if_neg hk]; split <;> rfl
theorem kidsOf_fields {n : GNode} (h : n.kind ≠ 11) (hk : n.kind ≠ 10) : kidsOf n = n.fields.map (fun f => f.ty) := by
  unfold kidsOf; rw [if_neg h, if_neg hk, List.append_nil]

theorem base_step {l F Ty B Fs D} (hT : TypS l Ty D) (hF : FieldsS l Fs D) : BaseS l (r05_parser_base_F F Ty B Fs) D := by
  intro x n m a P d h hm hd0 hd hn hi hk
  unfold r05_parser_base_F
  have leaf : ∀ y n', Ok l m a P y → n'.fields = [] → n'.kind ≠ 10 → ∃ m', Grow m m' ∧ Ok l m' a (P ∧ Kids (Sub D m'.nodes) (kidsOf n') m.nodes.length m'.nodes.length) y := fun y n' hy h1 h2 => ⟨m, Grow.refl hm, hy.to fun e p1 p2 => ⟨⟨p1, by rw [kidsOf_nil h1 h2]; rfl⟩, p2⟩⟩
  have leaf2 : ∀ (r : GPar × GNode), (∃ m', Grow m m' ∧ Ok l m' a (P ∧ Kids (Sub D m'.nodes) (r.2.fields.map (fun f => f.ty)) m.nodes.length m'.nodes.length) r.1) → r.2.kind ≠ 11 → r.2.kind ≠ 10 → ∃ m', Grow m m' ∧ Ok l m' a (P ∧ Kids (Sub D m'.nodes) (kidsOf r.2) m.nodes.length m'.nodes.length) r.1 := fun r h0 h1 h2 => by rw [kidsOf_fields h1 h2]; exact h0
  refine T.cal (now_tot h) fun ⟨t, x'⟩ _ ⟨ht, hx⟩ => ?_
  subst hx
  dsimp only at ht ⊢
  refine T.br (fun he => T.some ⟨m, Grow.refl hm, h.err (by simpa using he)⟩) fun _ => ?_
  refine T.cal (is_tot _ h) fun y1 _ h1 => T.br (fun _ => T.some (leaf _ _ h1.1 hn (by dsimp only; decide))) fun b1 => ?_
  refine T.cal (is_tot _ h1.1) fun y2 _ h2 => T.br (fun _ => T.some (leaf _ _ h2.1 hn (by dsimp only; decide))) fun b2 => ?_
  refine T.cal (is_tot _ h2.1) fun y3 _ h3 => T.br (fun _ => T.cal (size_tot h3.1) fun s _ hs => T.some (leaf _ _ hs.1 hn (by dsimp only; decide))) fun b3 => ?_
  refine T.cal (is_tot _ h3.1) fun y4 _ h4 => T.br (fun _ => T.cal (is_tot _ h4.1) fun s _ hs => T.br (fun _ => T.cal (bounds_tot hs.1) fun u _ hu => T.cal (must_tot _ hu.1) fun w _ hw => T.some (leaf _ _ hw.1 hn (by dsimp only; decide))) fun _ => T.some (leaf _ _ hs.1 hn (by dsimp only; decide))) fun b4 => ?_
  refine T.cal (is_tot _ h4.1) fun y5 _ h5 => T.br (fun _ => T.cal (must_tot _ h5.1) fun s _ hs => T.cal (size_tot hs.1) fun u _ hu => T.some (leaf _ _ hu.1 hn (by dsimp only; decide))) fun b5 => ?_
  refine T.cal (is_tot _ h5.1) fun y6 _ h6 => T.br (fun _ => T.cal (must_tot _ h6.1) fun s _ hs => T.cal (items_tot _ hs.1 hi) fun u _ hu => T.cal (must_tot _ hu.1) fun w _ hw => T.some (leaf _ _ hw.1 (hu.2.2.fields.trans hn) (by rw [hu.2.2.kind]; dsimp only; decide))) fun b6 => ?_
  refine T.cal (is_tot _ h6.1) fun y7 _ h7 => T.br (fun _ => T.cal (must_tot _ h7.1) fun s _ hs => T.cal (hF _ _ _ _ _ _ hs.1 hm hd0 hd hn) fun u _ hu => T.some (leaf2 _ hu.1 (by rw [hu.2]; dsimp only; decide) (by rw [hu.2]; dsimp only; decide))) fun b7 => ?_
  refine T.cal (is_tot _ h7.1) fun y8 _ h8 => T.br (fun _ => T.cal (must_tot _ h8.1) fun s _ hs => T.cal (hF _ _ _ _ _ _ hs.1 hm hd0 hd hn) fun u _ hu => T.some (leaf2 _ hu.1 (by rw [hu.2]; dsimp only; decide) (by rw [hu.2]; dsimp only; decide))) fun b8 => ?_
  refine T.cal (is_tot _ h8.1) fun y9 _ h9 => T.br (fun _ => T.cal (is_tot _ h9.1) fun s _ hs => T.br (fun _ => T.cal (hF _ _ _ _ _ _ hs.1 hm hd0 hd hn) fun u _ hu => T.some (leaf2 _ hu.1 (by rw [hu.2]; dsimp only; decide) (by rw [hu.2]; dsimp only; decide))) fun _ => ?_) fun b9 => ?_
  · refine T.cal (size_tot hs.1) fun u _ hu => T.cal (must_tot _ hu.1) fun w _ hw => T.ck (by omega) (T.cal (hT _ _ _ _ (d + 1) hw.1 hm (by omega) (by omega)) fun v _ ⟨m', hg, hv⟩ => T.some ⟨m', hg, hv.to fun e ⟨p1, p2, p3⟩ p4 => ⟨⟨p1, ?_⟩, p4⟩⟩)
    have e : kidsOf (GNode.mk 10 n.name n.mark u.1 n.items n.fields n.root n.more v.1) = [(m.nodes.length : Int)] := by
      unfold kidsOf; dsimp only; rw [hn, p2]; rfl
    dsimp only
    rw [e]
    exact ⟨_, rfl, p3, rfl⟩
  · refine T.br (fun _ => T.cal (next_tot h9.1) fun s _ hs => T.some (leaf _ _ hs.2.1 hn (by dsimp only; decide))) fun _ => T.cal (fail_tot _ _ h9.1 (by decide)) fun s _ hs => T.some ⟨m, Grow.refl hm, hs.1.err hs.2⟩

theorem typ_step {l F Ty B Fs D} (hB : ∀ D', D = D' + 1 → BaseS l B D') : TypS l (r05_parser_typ_F F Ty B Fs) D := by
  intro x m a P d h hm hd0 hd
  unfold r05_parser_typ_F
  refine T.br (fun he => T.some ⟨m, Grow.refl hm, h.err (by simpa using he)⟩) fun he => ?_
  refine T.cal (now_tot h) fun ⟨t, x'⟩ _ ⟨ht, hx⟩ => ?_
  subst hx
  dsimp only at ht h ⊢
  obtain rfl := h.ym
  refine T.cal (begins_tot t) fun b _ _ => T.br (fun _ => ?_) fun _ => ?_
  · refine T.cal (now_tot h) fun ⟨t2, x2⟩ _ ⟨_, hx2⟩ => ?_
    subst hx2
    exact T.cal (fail_tot _ _ h (by decide)) fun y _ hy => T.some ⟨_, Grow.refl hm, hy.1.err hy.2⟩
  refine T.jp (fun b => b = false → d ≤ 16 ∧ x'.m.nodes.length < 300) (fun J k => T.br (fun _ => k _ fun h => by cases h) fun h1 => k _ fun h2 => by have := of_decide_eq_false h1; have := of_decide_eq_false h2; omega) fun b2 hb2 => T.br (fun _ => ?_) fun hb3 => ?_
  · refine T.cal (now_tot h) fun ⟨t2, x2⟩ _ ⟨_, hx2⟩ => ?_
    subst hx2
    exact T.cal (fail_tot _ _ h (by decide)) fun y _ hy => T.some ⟨_, Grow.refl hm, hy.1.err hy.2⟩
  obtain ⟨hd16, hlt⟩ := hb2 hb3
  obtain ⟨D', rfl⟩ : ∃ D', D = D' + 1 := ⟨D - 1, by omega⟩
  refine T.abl (by simp only [List.length_singleton]; omega) ?_
  have hx1 : ∀ z, Ok l (GMod.mk x'.m.name x'.m.tagging x'.m.names x'.m.types (x'.m.nodes ++ [z])) a P (GPar.mk x'.l x'.at_ (GMod.mk x'.m.name x'.m.tagging x'.m.names x'.m.types (x'.m.nodes ++ [z])) x'.e x'.p) := fun z => ⟨h.toks, h.yl, rfl, h.a0, h.a1, h.ok⟩
  have hg1 : ∀ z, Grow x'.m (GMod.mk x'.m.name x'.m.tagging x'.m.names x'.m.types (x'.m.nodes ++ [z])) := fun z => ⟨rfl, rfl, rfl, rfl, by simp, by simp only [List.length_append, List.length_singleton]; omega, fun i hi => List.getElem?_append_left hi⟩
  have hzf : ∃ z, GNode.mk (0 : Int) (Str.mk []) (GMark.mk false (0 : Int) (0 : Int)) (GCon.mk false false false false (0 : Int) (0 : Int)) ([] : (List GItem)) ([] : (List GFld)) (0 : Int) false (0 : Int) = z ∧ z.fields = [] ∧ z.items = [] ∧ z.kind = 0 := ⟨_, rfl, rfl, rfl, rfl⟩
  obtain ⟨z, hz, z1, z2, z3⟩ := hzf
  rw [hz]
  refine T.cal (is_tot _ (hx1 _)) fun y1 _ h1 => T.jp (fun (q : GPar × GNode) => Ok l (GMod.mk x'.m.name x'.m.tagging x'.m.names x'.m.types (x'.m.nodes ++ [z])) a P q.1 ∧ q.2.fields = [] ∧ q.2.items = [] ∧ q.2.kind = 0) (fun J k => T.br (fun _ => ?_) fun _ => k _ ⟨h1.1, z1, z2, z3⟩) fun q ⟨hq, q1, q2, q3⟩ => ?_
  · refine T.cal (now_tot h1.1) fun ⟨t2, x2⟩ _ ⟨_, hx2⟩ => ?_
    subst hx2
    refine T.cal (number_ok h1.1) fun u _ hu => ?_
    refine T.jp (fun _ => True) (fun J2 k2 => T.br (fun _ => T.jp (fun _ => True) (fun J3 k3 => T.br (fun _ => k3 _ trivial) fun _ => k3 _ trivial) fun _ _ => k2 _ trivial) fun _ => k2 _ trivial) fun b5 _ => ?_
    refine T.jp (fun y => Ok l (GMod.mk x'.m.name x'.m.tagging x'.m.names x'.m.types (x'.m.nodes ++ [z])) a P y) (fun J2 k2 => T.br (fun _ => T.cal (fail_tot _ _ hu.1 (by decide)) fun w _ hw => k2 _ hw.1) fun _ => k2 _ hu.1) fun y5 h5 => ?_
    refine T.cal (must_tot _ h5) fun y6 _ h6 => T.cal (is_tot _ h6.1) fun y7 _ h7 => T.br (fun _ => k _ ⟨h7.1, rfl, rfl, rfl⟩) fun _ => T.cal (is_tot _ h7.1) fun y8 _ h8 => T.br (fun _ => k _ ⟨h8.1, rfl, rfl, rfl⟩) fun _ => k _ ⟨h8.1, rfl, rfl, rfl⟩
  · refine T.cal (hB D' rfl _ _ _ _ _ _ hq (hg1 z).lim hd0 (by omega) q1 q2 q3) fun v _ ⟨m2, hg2, hv⟩ => T.br (fun he2 => T.some ⟨m2, (hg1 z).trans hg2, hv.err (by simpa using he2)⟩) fun he2 => ?_
    have hvm := hv.ym
    have hle := hg2.le
    dsimp only at hle
    rw [List.length_append, List.length_singleton] at hle
    rw [hvm]
    refine T.asd (by omega) (T.cal (Q := fun _ => True) ⟨_, List.getElem?_eq_getElem (by omega), trivial⟩ fun w _ _ => T.some ⟨GMod.mk m2.name m2.tagging m2.names m2.types (m2.nodes.set x'.m.nodes.length v.2), ?_, ⟨hv.toks, hv.yl, rfl, hv.a0, hv.a1, fun e => ?_⟩⟩)
    · have hg3 := (hg1 z).trans hg2
      refine ⟨hg3.name, hg3.tagging, hg3.names, hg3.types, by dsimp only; rw [List.length_set]; exact hg3.le, by dsimp only; rw [List.length_set]; exact hg3.lim, fun i hi => ?_⟩
      dsimp only
      rw [List.getElem?_set_ne (by omega)]
      exact hg3.pre i hi
    · obtain ⟨⟨p1, p2⟩, p3⟩ := hv.ok e
      dsimp only at p2 ⊢
      rw [List.length_append, List.length_singleton] at p2
      refine ⟨⟨p1, rfl, ?_⟩, p3⟩
      rw [List.length_set]
      refine ⟨v.2, by rw [List.getElem?_set_self (by omega)], p2.monoL fun k hk1 hk2 => ?_⟩
      rw [List.getElem?_set_ne (by omega)]
/-- All four, by the fuel that they have. -/
theorem group (l : List GTok) : ∀ n,
    (∀ D, 4 * D < n → TypS l (r05_parser_typ n) D) ∧ (∀ D, 4 * (D + 1) < n + 1 → BaseS l (r05_parser_base n) D) ∧ (∀ D, 4 * (D + 1) < n + 2 → FieldsS l (r05_parser_fields n) D) ∧ (∀ D, 4 * (D + 1) < n + 3 → FieldS l (r05_parser_field n) D) := by
  intro n
  induction n with
  | zero => exact ⟨fun D h => by omega, fun D h => by omega, fun D h => by omega, fun D h => by omega⟩
  | succ n ih =>
    obtain ⟨i1, i2, i3, i4⟩ := ih
    refine ⟨fun D h => typ_step (F := r05_parser_field n) (Ty := r05_parser_typ n) (B := r05_parser_base n) (Fs := r05_parser_fields n) fun D' e => i2 D' (by omega), fun D h => base_step (F := r05_parser_field n) (Ty := r05_parser_typ n) (B := r05_parser_base n) (Fs := r05_parser_fields n) (i1 D (by omega)) (i3 D (by omega)), fun D h => fields_step (F := r05_parser_field n) (Ty := r05_parser_typ n) (B := r05_parser_base n) (Fs := r05_parser_fields n) (i4 D (by omega)), fun D h => field_step (F := r05_parser_field n) (Ty := r05_parser_typ n) (B := r05_parser_base n) (Fs := r05_parser_fields n) (i1 D (by omega))⟩
theorem typ_tot (l : List GTok) : TypS l (r05_parser_typ fuel) 17 := (group l fuel).1 17 (by unfold fuel; omega)
end Go.Proofs.YtdcdndflfhaejaaDoor
