/- RefsOrder: for every text the law returns true, and the text reads behind the call as it read before; what the tables of utf8 hold is tied to the program's text. No condition. -/
import Derived.Test.YtdcdndflfhaejaaDoorOrA
import Derived.Test.YtdcdndflfhaejaaDoorOrB
import Derived.Test.YtdcdndflfhaejaaDoorOrC
import Derived.Test.YtdcdndflfhaejaaDoorOrD
import Derived.KernelRfl
import Derived.Test.YtdcdndflfhaejaaDoorRows
import Derived.Test.YtdcdndflfhaejaaDoorTie
import Derived.Test.YtdcdndflfhaejaaDoorCards
import Derived.SevenTiedAt

namespace Go.Proofs.YtdcdndflfhaejaaDoor
open Go.Sy
set_option linter.unusedVariables false

def TypS (l : List GTok) (f : GPar → Int → Option (Int × GPar)) (D : Nat) : Prop := ∀ x m a P (d : Int), Ok l m a P x → m.nodes.length ≤ 300 → 0 ≤ d → d + D = 17 →
  T (fun r => ∃ m', Grow m m' ∧ Ok l m' a (P ∧ r.1 = (m.nodes.length : Int) ∧ Sub D m'.nodes m.nodes.length m'.nodes.length) r.2) (f x d)
def BaseS (l : List GTok) (f : GPar → GNode → Int → Option (GPar × GNode)) (D : Nat) : Prop := ∀ x n m a P (d : Int), Ok l m a P x → m.nodes.length ≤ 300 → 0 ≤ d → d + D = 16 → n.fields = [] → n.items = [] → n.kind = 0 →
  T (fun r => ∃ m', Grow m m' ∧ Ok l m' a (P ∧ Kids (Sub D m'.nodes) (kidsOf r.2) m.nodes.length m'.nodes.length) r.1) (f x n d)
def FieldsS (l : List GTok) (f : GPar → GNode → Int → Option (GPar × GNode)) (D : Nat) : Prop := ∀ x n m a P (d : Int), Ok l m a P x → m.nodes.length ≤ 300 → 0 ≤ d → d + D = 16 → n.fields = [] →
  T (fun r => (∃ m', Grow m m' ∧ Ok l m' a (P ∧ Kids (Sub D m'.nodes) (r.2.fields.map (fun f => f.ty)) m.nodes.length m'.nodes.length) r.1) ∧ r.2.kind = n.kind) (f x n d)
def FieldS (l : List GTok) (f : GPar → GNode → Int → Int → Option (GPar × GNode)) (D : Nat) : Prop := ∀ x n m a P (d g : Int) b0, Ok l m a (P ∧ Kids (Sub D m.nodes) (n.fields.map (fun f => f.ty)) b0 m.nodes.length) x → m.nodes.length ≤ 300 → 0 ≤ d → d + D = 16 → (n.fields.length : Int) ≤ x.at_ → b0 ≤ m.nodes.length →
  T (fun r => (∃ m', Grow m m' ∧ Ok l m' a (P ∧ Kids (Sub D m'.nodes) (r.2.fields.map (fun f => f.ty)) b0 m'.nodes.length ∧ x.at_ + 1 ≤ r.1.at_) r.1) ∧ r.2.kind = n.kind ∧ r.2.fields.length = n.fields.length + 1) (f x n d g)

theorem field_step {l F Ty B Fs D} (hT : TypS l Ty D) : FieldS l (r05_parser_field_F F Ty B Fs) D := by
  intro x n m a P d g b0 h hm hd0 hd hn hb
  unfold r05_parser_field_F
  have hl := h.toks.len
  have ha := h.a1
  refine T.cal (kind_tot 2 (by decide) h) fun r _ hr => T.ck (by omega) ?_
  have h1 : Ok l m (x.at_ + 1) ((P ∧ Kids (Sub D m.nodes) (n.fields.map (fun f => f.ty)) b0 m.nodes.length) ∧ a ≤ x.at_) r.2 := hr.1.to fun e h2 h3 => ⟨⟨h2, (h.ok (hr.2.1 e).1).2⟩, by have := hr.2.1 e; omega⟩
  refine T.cal (hT _ _ _ _ (d + 1) h1 hm (by omega) (by omega)) fun s _ ⟨m', hg, hs⟩ => ?_
  refine T.jp (fun q => Ok l m' (x.at_ + 1) (((P ∧ Kids (Sub D m.nodes) (n.fields.map (fun f => f.ty)) b0 m.nodes.length) ∧ a ≤ x.at_) ∧ s.1 = (m.nodes.length : Int) ∧ Sub D m'.nodes m.nodes.length m'.nodes.length) q.2 ∧ q.1.ty = s.1) (fun J k => ?_) fun q hq => ?_
  · refine T.br (fun _ => k _ ⟨hs, rfl⟩) fun _ => T.cal (is_tot _ hs) fun y1 _ e1 => T.br (fun _ => k _ ⟨e1.1, rfl⟩) fun _ => T.cal (is_tot _ e1.1) fun y2 _ e2 => T.br (fun _ => T.cal (value_tot e2.1) fun y3 _ e3 => k _ ⟨e3, rfl⟩) fun _ => k _ ⟨e2.1, rfl⟩
  · refine T.abl (by simp only [List.length_singleton]; omega) (T.some ⟨⟨m', hg, hq.1.to fun e ⟨⟨⟨p1, p2⟩, p3⟩, p4, p5⟩ p6 => ⟨⟨p1, ?_, p6⟩, ?_⟩⟩, rfl, by simp⟩)
    · dsimp only
      rw [List.map_append, List.map_singleton, hq.2, p4]
      exact (p2.monoL fun k hk1 hk2 => hg.pre k hk2).snoc p5
    · omega

/-- Fields, or their groups, one behind the other. -/
theorem fields_step {l F Ty B Fs D} (hF : FieldS l F D) : FieldsS l (r05_parser_fields_F F Ty B Fs) D := by
  intro x n m a P d h hm hd0 hd hn
  unfold r05_parser_fields_F
  have hl := h.toks.len
  have ha0 := h.a0
  have ha1 := h.a1
  have hk0 : Kids (Sub D m.nodes) (n.fields.map (fun f => f.ty)) m.nodes.length m.nodes.length := by rw [hn]; rfl
  refine T.cal (is_tot _ h) fun r _ hr => T.br (fun _ => T.some ⟨⟨m, Grow.refl hm, hr.1.to fun e p1 p2 => ⟨⟨p1, hk0⟩, p2⟩⟩, rfl⟩) fun hb => ?_
  have hrx := hr.2.2.2 hb
  -- what holds between
  refine T.jp (fun (q : GPar × GNode) => (∃ m', Grow m m' ∧ Ok l m' a (P ∧ Kids (Sub D m'.nodes) (q.2.fields.map (fun f => f.ty)) m.nodes.length m'.nodes.length) q.1) ∧ q.2.kind = n.kind) (fun J k => ?_) fun q ⟨⟨m', hg, hq⟩, hqk⟩ => ?_
  · refine T.lp (fun (q : Int × GPar × GNode) => ((∃ m', Grow m m' ∧ Ok l m' a (P ∧ Kids (Sub D m'.nodes) (q.2.2.fields.map (fun f => f.ty)) m.nodes.length m'.nodes.length) q.2.1) ∧ q.2.2.kind = n.kind) ∧ 0 ≤ q.1 ∧ q.1 ≤ q.2.1.at_ ∧ (q.2.2.fields.length : Int) ≤ q.2.1.at_) (fun (q : Int × GPar × GNode) => ((l.length : Int) - q.2.1.at_).toNat) ⟨⟨⟨m, Grow.refl hm, hr.1.to fun e p1 p2 => ⟨⟨p1, hk0⟩, p2⟩⟩, rfl⟩, Int.le_refl _, by dsimp only; rw [hrx]; exact ha0, by dsimp only; rw [hrx, hn]; exact ha0⟩ (by dsimp only; rw [hrx]; omega) fun L q hq hL => ?_
    obtain ⟨g, y, n1⟩ := q
    obtain ⟨⟨⟨m1, hg1, h1⟩, hk1⟩, h2, h3, h4⟩ := hq
    dsimp only at h1 h2 h3 h4 hk1 ⊢
    have hy1 := h1.a1
    refine T.br (fun he => ?_) fun _ => k _ ⟨⟨m1, hg1, h1⟩, hk1⟩
    have he := of_decide_eq_true he
    refine T.jp (fun (q : Int × GPar × GNode) => ((∃ m', Grow m m' ∧ Ok l m' a (P ∧ Kids (Sub D m'.nodes) (q.2.2.fields.map (fun f => f.ty)) m.nodes.length m'.nodes.length) q.2.1) ∧ q.2.2.kind = n.kind) ∧ 0 ≤ q.1 ∧ (q.2.1.e = 0 → q.1 ≤ q.2.1.at_ + 1 ∧ (q.2.2.fields.length : Int) ≤ q.2.1.at_ + 1 ∧ y.at_ ≤ q.2.1.at_)) (fun J2 k2 => ?_) fun q hq => ?_
    · refine T.jp (fun (q : Bool × GPar) => Ok l m1 a (P ∧ Kids (Sub D m1.nodes) (n1.fields.map (fun f => f.ty)) m.nodes.length m1.nodes.length) q.2 ∧ q.2.at_ ≥ y.at_ ∧ (q.1 = false → q.2 = y)) (fun J3 k3 => T.br (fun _ => T.cal (is_tot _ h1) fun u _ hu => k3 _ ⟨hu.1, ?_, hu.2.2.2⟩) fun _ => k3 _ ⟨h1, Int.le_refl _, fun _ => rfl⟩) fun q3 hq3 => ?_
      · cases hu1 : u.1 with
        | true => have := hu.2.2.1 hu1; dsimp only; omega
        | false => have := hu.2.2.2 hu1; dsimp only; rw [this]; omega
      refine T.br (fun _ => k2 _ ⟨⟨⟨m1, hg1, hq3.1⟩, hk1⟩, h2, fun _ => ⟨by dsimp only; omega, by dsimp only; omega, by dsimp only; omega⟩⟩) fun b3 => ?_
      have e3 := hq3.2.2 b3
      refine T.jp (fun (q : Bool × GPar) => Ok l m1 a (P ∧ Kids (Sub D m1.nodes) (n1.fields.map (fun f => f.ty)) m.nodes.length m1.nodes.length) q.2 ∧ q.2.at_ ≥ y.at_ ∧ (q.1 = true → q.2.at_ ≥ y.at_ + 1) ∧ (q.1 = false → q.2 = y)) (fun J3 k3 => T.br (fun _ => T.cal (is_tot _ hq3.1) fun u _ hu => k3 _ ⟨hu.1, ?_, fun hu1 => ?_, fun hu1 => ?_⟩) fun _ => k3 _ ⟨hq3.1, by dsimp only; omega, (fun h => by cases h), fun _ => e3⟩) fun q4 hq4 => ?_
      · cases hu1 : u.1 with
        | true => have := hu.2.2.1 hu1; dsimp only; omega
        | false => have := hu.2.2.2 hu1; dsimp only; rw [this]; omega
      · have := hu.2.2.1 hu1; dsimp only; omega
      · have := hu.2.2.2 hu1; dsimp only; rw [this, e3]
      refine T.br (fun b4 => T.ck (by omega) ?_) fun b4 => ?_
      · have a4 := hq4.2.2.1 b4
        have a5 := hq4.1.a1
        refine T.jp (fun (q : GPar × GNode) => (∃ m', Grow m m' ∧ Ok l m' a (P ∧ Kids (Sub D m'.nodes) (q.2.fields.map (fun f => f.ty)) m.nodes.length m'.nodes.length) q.1) ∧ q.2.kind = n.kind ∧ (q.1.e = 0 → (q.2.fields.length : Int) ≤ q.1.at_ + 1 ∧ q4.2.at_ ≤ q.1.at_)) (fun J5 k5 => ?_) fun q ⟨⟨m2, hg2, hq⟩, hqk, hql⟩ => ?_
        · refine T.lp (fun (q : GPar × GNode) => (∃ m', Grow m m' ∧ Ok l m' a (P ∧ Kids (Sub D m'.nodes) (q.2.fields.map (fun f => f.ty)) m.nodes.length m'.nodes.length) q.1) ∧ q.2.kind = n.kind ∧ (q.2.fields.length : Int) ≤ q.1.at_ ∧ q4.2.at_ ≤ q.1.at_) (fun (q : GPar × GNode) => ((l.length : Int) - q.1.at_).toNat) ⟨⟨m1, hg1, hq4.1⟩, hk1, by dsimp only; omega, Int.le_refl _⟩ (by have := hq4.1.a0; dsimp only; omega) fun L6 q ⟨⟨m2, hg2, hq⟩, hqk, hql, hqa⟩ hL6 => ?_
          refine T.br (fun b6 => ?_) fun _ => k5 _ ⟨⟨m2, hg2, hq⟩, hqk, fun _ => ⟨by dsimp only; omega, hqa⟩⟩
          refine T.cal (hF _ _ _ _ _ _ _ _ hq hg2.lim hd0 hd hql hg2.le) fun s _ ⟨⟨m3, hg3, hs⟩, hsk, hsl⟩ => T.cal (is_tot _ hs) fun u _ hu => T.br (fun b7 => k5 _ ⟨⟨m3, hg2.trans hg3, hu.1.to fun e ⟨p1, p2, p3⟩ p4 => ⟨⟨p1, p2⟩, p4⟩⟩, hsk.trans hqk, fun e => ?_⟩) fun b7 => ?_
          · have b7 : u.1 = false := by simpa using b7
            have e7 := hu.2.2.2 b7
            have e8 := (hs.ok (by rw [← e7]; exact e)).1.2.2
            dsimp only
            rw [e7]
            exact ⟨by omega, by omega⟩
          · have b7 : u.1 = true := by simpa using b7
            have e7 := hu.2.2.1 b7
            have e8 := (hs.ok e7.1).1.2.2
            have e9 := hu.1.a1
            exact hL6 _ ⟨⟨m3, hg2.trans hg3, hu.1.to fun e ⟨p1, p2, p3⟩ p4 => ⟨⟨p1, p2⟩, p4⟩⟩, hsk.trans hqk, by dsimp only; omega, by dsimp only; omega⟩ (by dsimp only; omega)
        · refine T.cal (must_tot _ hq) fun w _ hw => k2 _ ⟨⟨⟨m2, hg2, hw.1⟩, hqk⟩, by dsimp only; omega, fun e => ?_⟩
          have e1 := hw.2 e
          have e2 := hql e1.1
          dsimp only
          omega
      · have e4 := hq4.2.2.2 b4
        refine T.cal (hF _ _ _ _ _ _ (0 : Int) _ hq4.1 hg1.lim hd0 hd (by rw [e4]; exact h4) hg1.le) fun s _ ⟨⟨m3, hg3, hs⟩, hsk, hsl⟩ => k2 _ ⟨⟨⟨m3, hg1.trans hg3, hs.to fun e ⟨p1, p2, p3⟩ p4 => ⟨⟨p1, p2⟩, p4⟩⟩, hsk.trans hk1⟩, h2, fun e => ?_⟩
        have e8 := (hs.ok e).1.2.2
        rw [e4] at e8
        dsimp only
        omega
    · obtain ⟨⟨⟨m2, hg2, hq1⟩, hqk⟩, hq0, hql⟩ := hq
      refine T.cal (is_tot _ hq1) fun u _ hu => T.br (fun b7 => k _ ⟨⟨m2, hg2, hu.1⟩, hqk⟩) fun b7 => ?_
      have b7 : u.1 = true := by simpa using b7
      have e7 := hu.2.2.1 b7
      have e8 := hql e7.1
      have e9 := hu.1.a1
      exact hL _ ⟨⟨⟨m2, hg2, hu.1⟩, hqk⟩, hq0, by dsimp only; omega, by dsimp only; omega⟩ (by dsimp only; omega)
  · refine T.cal (must_tot _ hq) fun w _ hw => T.br (fun _ => T.some ⟨⟨m', hg, hw.1⟩, hqk⟩) fun _ => T.some ⟨⟨m', hg, hw.1⟩, hqk⟩
end Go.Proofs.YtdcdndflfhaejaaDoor


namespace Go.Proofs.YtdcdndflfhaejaaDoor
open Go.Sy
set_option linter.unusedVariables false

theorem kidsOf_nil {n : GNode} (h : n.fields = []) (hk : n.kind ≠ 10) : kidsOf n = [] := by
  unfold kidsOf; rw [h, if_neg hk]; split <;> rfl
theorem kidsOf_fields {n : GNode} (h : n.kind ≠ 11) (hk : n.kind ≠ 10) : kidsOf n = n.fields.map (fun f => f.ty) := by
  unfold kidsOf; rw [if_neg h, if_neg hk, List.append_nil]

theorem base_step {l F Ty B Fs D} (hT : TypS l Ty D) (hF : FieldsS l Fs D) : BaseS l (r05_parser_base_F F Ty B Fs) D := by
  intro x n m a P d h hm hd0 hd hn hi hk
  unfold r05_parser_base_F
  have leaf : ∀ y n', Ok l m a P y → n'.fields = [] → n'.kind ≠ 10 → ∃ m', Grow m m' ∧ Ok l m' a (P ∧ Kids (Sub D m'.nodes) (kidsOf n') m.nodes.length m'.nodes.length) y := fun y n' hy h1 h2 => ⟨m, Grow.refl hm, hy.to fun e p1 p2 => ⟨⟨p1, by rw [kidsOf_nil h1 h2]; rfl⟩, p2⟩⟩
  have leaf2 : ∀ (r : GPar × GNode), (∃ m', Grow m m' ∧ Ok l m' a (P ∧ Kids (Sub D m'.nodes) (r.2.fields.map (fun f => f.ty)) m.nodes.length m'.nodes.length) r.1) → r.2.kind ≠ 11 → r.2.kind ≠ 10 → ∃ m', Grow m m' ∧ Ok l m' a (P ∧ Kids (Sub D m'.nodes) (kidsOf r.2) m.nodes.length m'.nodes.length) r.1 := fun r h0 h1 h2 => by rw [kidsOf_fields h1 h2]; exact h0
  refine T.cal (now_tot h) fun ⟨t, x'⟩ _ ⟨ht, hx⟩ => ?_
  subst hx
  dsimp only at ht ⊢
  refine T.br (fun he => T.some ⟨m, Grow.refl hm, h.err (by simpa using he)⟩) fun _ => ?_
  refine T.cal (is_tot _ h) fun y1 _ h1 => T.br (fun _ => T.some (leaf _ _ h1.1 hn (by dsimp only; decide))) fun b1 => ?_
  refine T.cal (is_tot _ h1.1) fun y2 _ h2 => T.br (fun _ => T.some (leaf _ _ h2.1 hn (by dsimp only; decide))) fun b2 => ?_
  refine T.cal (is_tot _ h2.1) fun y3 _ h3 => T.br (fun _ => T.cal (size_tot h3.1) fun s _ hs => T.some (leaf _ _ hs.1 hn (by dsimp only; decide))) fun b3 => ?_
  refine T.cal (is_tot _ h3.1) fun y4 _ h4 => T.br (fun _ => T.cal (is_tot _ h4.1) fun s _ hs => T.br (fun _ => T.cal (bounds_tot hs.1) fun u _ hu => T.cal (must_tot _ hu.1) fun w _ hw => T.some (leaf _ _ hw.1 hn (by dsimp only; decide))) fun _ => T.some (leaf _ _ hs.1 hn (by dsimp only; decide))) fun b4 => ?_
  refine T.cal (is_tot _ h4.1) fun y5 _ h5 => T.br (fun _ => T.cal (must_tot _ h5.1) fun s _ hs => T.cal (size_tot hs.1) fun u _ hu => T.some (leaf _ _ hu.1 hn (by dsimp only; decide))) fun b5 => ?_
  refine T.cal (is_tot _ h5.1) fun y6 _ h6 => T.br (fun _ => T.cal (must_tot _ h6.1) fun s _ hs => T.cal (items_tot _ hs.1 hi) fun u _ hu => T.cal (must_tot _ hu.1) fun w _ hw => T.some (leaf _ _ hw.1 (hu.2.2.fields.trans hn) (by rw [hu.2.2.kind]; dsimp only; decide))) fun b6 => ?_
  refine T.cal (is_tot _ h6.1) fun y7 _ h7 => T.br (fun _ => T.cal (must_tot _ h7.1) fun s _ hs => T.cal (hF _ _ _ _ _ _ hs.1 hm hd0 hd hn) fun u _ hu => T.some (leaf2 _ hu.1 (by rw [hu.2]; dsimp only; decide) (by rw [hu.2]; dsimp only; decide))) fun b7 => ?_
  refine T.cal (is_tot _ h7.1) fun y8 _ h8 => T.br (fun _ => T.cal (must_tot _ h8.1) fun s _ hs => T.cal (hF _ _ _ _ _ _ hs.1 hm hd0 hd hn) fun u _ hu => T.some (leaf2 _ hu.1 (by rw [hu.2]; dsimp only; decide) (by rw [hu.2]; dsimp only; decide))) fun b8 => ?_
  refine T.cal (is_tot _ h8.1) fun y9 _ h9 => T.br (fun _ => T.cal (is_tot _ h9.1) fun s _ hs => T.br (fun _ => T.cal (hF _ _ _ _ _ _ hs.1 hm hd0 hd hn) fun u _ hu => T.some (leaf2 _ hu.1 (by rw [hu.2]; dsimp only; decide) (by rw [hu.2]; dsimp only; decide))) fun _ => ?_) fun b9 => ?_
  · refine T.cal (size_tot hs.1) fun u _ hu => T.cal (must_tot _ hu.1) fun w _ hw => T.ck (by omega) (T.cal (hT _ _ _ _ (d + 1) hw.1 hm (by omega) (by omega)) fun v _ ⟨m', hg, hv⟩ => T.some ⟨m', hg, hv.to fun e ⟨p1, p2, p3⟩ p4 => ⟨⟨p1, ?_⟩, p4⟩⟩)
    have e : kidsOf (GNode.mk 10 n.name n.mark u.1 n.items n.fields n.root n.more v.1) = [(m.nodes.length : Int)] := by
      unfold kidsOf; dsimp only; rw [hn, p2]; rfl
    dsimp only
    rw [e]
    exact ⟨_, rfl, p3, rfl⟩
  · refine T.br (fun _ => T.cal (next_tot h9.1) fun s _ hs => T.some (leaf _ _ hs.2.1 hn (by dsimp only; decide))) fun _ => T.cal (fail_tot _ _ h9.1 (by decide)) fun s _ hs => T.some ⟨m, Grow.refl hm, hs.1.err hs.2⟩

theorem typ_step {l F Ty B Fs D} (hB : ∀ D', D = D' + 1 → BaseS l B D') : TypS l (r05_parser_typ_F F Ty B Fs) D := by
  intro x m a P d h hm hd0 hd
  unfold r05_parser_typ_F
  refine T.br (fun he => T.some ⟨m, Grow.refl hm, h.err (by simpa using he)⟩) fun he => ?_
  refine T.cal (now_tot h) fun ⟨t, x'⟩ _ ⟨ht, hx⟩ => ?_
  subst hx
  dsimp only at ht h ⊢
  obtain rfl := h.ym
  refine T.cal (begins_tot t) fun b _ _ => T.br (fun _ => ?_) fun _ => ?_
  · refine T.cal (now_tot h) fun ⟨t2, x2⟩ _ ⟨_, hx2⟩ => ?_
    subst hx2
    exact T.cal (fail_tot _ _ h (by decide)) fun y _ hy => T.some ⟨_, Grow.refl hm, hy.1.err hy.2⟩
  refine T.jp (fun b => b = false → d ≤ 16 ∧ x'.m.nodes.length < 300) (fun J k => T.br (fun _ => k _ fun h => by cases h) fun h1 => k _ fun h2 => by have := of_decide_eq_false h1; have := of_decide_eq_false h2; omega) fun b2 hb2 => T.br (fun _ => ?_) fun hb3 => ?_
  · refine T.cal (now_tot h) fun ⟨t2, x2⟩ _ ⟨_, hx2⟩ => ?_
    subst hx2
    exact T.cal (fail_tot _ _ h (by decide)) fun y _ hy => T.some ⟨_, Grow.refl hm, hy.1.err hy.2⟩
  obtain ⟨hd16, hlt⟩ := hb2 hb3
  obtain ⟨D', rfl⟩ : ∃ D', D = D' + 1 := ⟨D - 1, by omega⟩
  refine T.abl (by simp only [List.length_singleton]; omega) ?_
  have hx1 : ∀ z, Ok l (GMod.mk x'.m.name x'.m.tagging x'.m.names x'.m.types (x'.m.nodes ++ [z])) a P (GPar.mk x'.l x'.at_ (GMod.mk x'.m.name x'.m.tagging x'.m.names x'.m.types (x'.m.nodes ++ [z])) x'.e x'.p) := fun z => ⟨h.toks, h.yl, rfl, h.a0, h.a1, h.ok⟩
  have hg1 : ∀ z, Grow x'.m (GMod.mk x'.m.name x'.m.tagging x'.m.names x'.m.types (x'.m.nodes ++ [z])) := fun z => ⟨rfl, rfl, rfl, rfl, by simp, by simp only [List.length_append, List.length_singleton]; omega, fun i hi => List.getElem?_append_left hi⟩
  have hzf : ∃ z, GNode.mk (0 : Int) (Str.mk []) (GMark.mk false (0 : Int) (0 : Int)) (GCon.mk false false false false (0 : Int) (0 : Int)) ([] : (List GItem)) ([] : (List GFld)) (0 : Int) false (0 : Int) = z ∧ z.fields = [] ∧ z.items = [] ∧ z.kind = 0 := ⟨_, rfl, rfl, rfl, rfl⟩
  obtain ⟨z, hz, z1, z2, z3⟩ := hzf
  rw [hz]
  refine T.cal (is_tot _ (hx1 _)) fun y1 _ h1 => T.jp (fun (q : GPar × GNode) => Ok l (GMod.mk x'.m.name x'.m.tagging x'.m.names x'.m.types (x'.m.nodes ++ [z])) a P q.1 ∧ q.2.fields = [] ∧ q.2.items = [] ∧ q.2.kind = 0) (fun J k => T.br (fun _ => ?_) fun _ => k _ ⟨h1.1, z1, z2, z3⟩) fun q ⟨hq, q1, q2, q3⟩ => ?_
  · refine T.cal (now_tot h1.1) fun ⟨t2, x2⟩ _ ⟨_, hx2⟩ => ?_
    subst hx2
    refine T.cal (number_ok h1.1) fun u _ hu => ?_
    refine T.jp (fun _ => True) (fun J2 k2 => T.br (fun _ => T.jp (fun _ => True) (fun J3 k3 => T.br (fun _ => k3 _ trivial) fun _ => k3 _ trivial) fun _ _ => k2 _ trivial) fun _ => k2 _ trivial) fun b5 _ => ?_
    refine T.jp (fun y => Ok l (GMod.mk x'.m.name x'.m.tagging x'.m.names x'.m.types (x'.m.nodes ++ [z])) a P y) (fun J2 k2 => T.br (fun _ => T.cal (fail_tot _ _ hu.1 (by decide)) fun w _ hw => k2 _ hw.1) fun _ => k2 _ hu.1) fun y5 h5 => ?_
    refine T.cal (must_tot _ h5) fun y6 _ h6 => T.cal (is_tot _ h6.1) fun y7 _ h7 => T.br (fun _ => k _ ⟨h7.1, rfl, rfl, rfl⟩) fun _ => T.cal (is_tot _ h7.1) fun y8 _ h8 => T.br (fun _ => k _ ⟨h8.1, rfl, rfl, rfl⟩) fun _ => k _ ⟨h8.1, rfl, rfl, rfl⟩
  · refine T.cal (hB D' rfl _ _ _ _ _ _ hq (hg1 z).lim hd0 (by omega) q1 q2 q3) fun v _ ⟨m2, hg2, hv⟩ => T.br (fun he2 => T.some ⟨m2, (hg1 z).trans hg2, hv.err (by simpa using he2)⟩) fun he2 => ?_
    have hvm := hv.ym
    have hle := hg2.le
    dsimp only at hle
    rw [List.length_append, List.length_singleton] at hle
    rw [hvm]
    refine T.asd (by omega) (T.cal (Q := fun _ => True) ⟨_, List.getElem?_eq_getElem (by omega), trivial⟩ fun w _ _ => T.some ⟨GMod.mk m2.name m2.tagging m2.names m2.types (m2.nodes.set x'.m.nodes.length v.2), ?_, ⟨hv.toks, hv.yl, rfl, hv.a0, hv.a1, fun e => ?_⟩⟩)
    · have hg3 := (hg1 z).trans hg2
      refine ⟨hg3.name, hg3.tagging, hg3.names, hg3.types, by dsimp only; rw [List.length_set]; exact hg3.le, by dsimp only; rw [List.length_set]; exact hg3.lim, fun i hi => ?_⟩
      dsimp only
      rw [List.getElem?_set_ne (by omega)]
      exact hg3.pre i hi
    · obtain ⟨⟨p1, p2⟩, p3⟩ := hv.ok e
      dsimp only at p2 ⊢
      rw [List.length_append, List.length_singleton] at p2
      refine ⟨⟨p1, rfl, ?_⟩, p3⟩
      rw [List.length_set]
      refine ⟨v.2, by rw [List.getElem?_set_self (by omega)], p2.monoL fun k hk1 hk2 => ?_⟩
      rw [List.getElem?_set_ne (by omega)]
/-- All four, by the fuel that they have. -/
theorem group (l : List GTok) : ∀ n,
    (∀ D, 4 * D < n → TypS l (r05_parser_typ n) D) ∧ (∀ D, 4 * (D + 1) < n + 1 → BaseS l (r05_parser_base n) D) ∧ (∀ D, 4 * (D + 1) < n + 2 → FieldsS l (r05_parser_fields n) D) ∧ (∀ D, 4 * (D + 1) < n + 3 → FieldS l (r05_parser_field n) D) := by
  intro n
  induction n with
  | zero => exact ⟨fun D h => by omega, fun D h => by omega, fun D h => by omega, fun D h => by omega⟩
  | succ n ih =>
    obtain ⟨i1, i2, i3, i4⟩ := ih
    refine ⟨fun D h => typ_step (F := r05_parser_field n) (Ty := r05_parser_typ n) (B := r05_parser_base n) (Fs := r05_parser_fields n) fun D' e => i2 D' (by omega), fun D h => base_step (F := r05_parser_field n) (Ty := r05_parser_typ n) (B := r05_parser_base n) (Fs := r05_parser_fields n) (i1 D (by omega)) (i3 D (by omega)), fun D h => fields_step (F := r05_parser_field n) (Ty := r05_parser_typ n) (B := r05_parser_base n) (Fs := r05_parser_fields n) (i4 D (by omega)), fun D h => field_step (F := r05_parser_field n) (Ty := r05_parser_typ n) (B := r05_parser_base n) (Fs := r05_parser_fields n) (i1 D (by omega))⟩
theorem typ_tot (l : List GTok) : TypS l (r05_parser_typ fuel) 17 := (group l fuel).1 17 (by unfold fuel; omega)
end Go.Proofs.YtdcdndflfhaejaaDoor


namespace Go.Proofs.YtdcdndflfhaejaaDoor
open Go.Sy
set_option linter.unusedVariables false

/-- A module as the parser makes it. -/
structure WF (m : GMod) : Prop where
  names : m.names.length ≤ 40
  types : m.types.length = m.names.length
  nodes : m.nodes.length ≤ 300
  forest : Kids (Sub 17 m.nodes) m.types 0 m.nodes.length
theorem WF.empty : WF (GMod.mk (Str.mk []) (0 : Int) ([] : (List Str)) ([] : (List Int)) ([] : (List GNode))) := ⟨by decide, rfl, by decide, rfl⟩
/-- What holds between the types of a module. -/
structure PInv (l : List GTok) (y : GPar) : Prop where
  ok : Ok l y.m 0 (y.m.names.length ≤ 40 ∧ Kids (Sub 17 y.m.nodes) y.m.types 0 y.m.nodes.length ∧ (y.m.names.length : Int) ≤ y.at_) y
  nodes : y.m.nodes.length ≤ 300
  names : y.m.names.length ≤ 10000
  types : y.m.types.length = y.m.names.length
theorem PInv.re {l y y'} (h : PInv l y) (hm : y'.m = y.m) (hl : y'.l = y.l) (h0 : y.at_ ≤ y'.at_) (h1 : y'.at_ < (l.length : Int)) (he : y'.e = 0 → y.e = 0) : PInv l y' := by
  have := h.ok.a0
  refine ⟨⟨h.ok.toks, hl.trans h.ok.yl, rfl, by omega, h1, fun e => ?_⟩, by rw [hm]; exact h.nodes, by rw [hm]; exact h.names, by rw [hm]; exact h.types⟩
  have := h.ok.ok (he e)
  rw [hm]
  exact ⟨⟨this.1.1, this.1.2.1, by omega⟩, by omega⟩

theorem parse_tot (s : Str) : T (fun r => WF r.1) (r05_Parse s) := by
  unfold r05_Parse
  refine T.cal (tokens_tot s) fun r _ hr => T.br (fun _ => T.some WF.empty) fun he => ?_
  have he : r.2.2 = 0 := by simpa using he
  have htk := hr he
  obtain ⟨ml, le, hle, _, _⟩ := htk.last
  have hll : 0 < r.1.length := by rw [hle]; simp
  have hl8 := htk.len
  -- the head: no names yet
  have head : ∀ y : GPar, Ok r.1 y.m 0 True y → y.m.names = [] → y.m.types = [] → y.m.nodes = [] → PInv r.1 y := fun y hy h1 h2 h3 => ⟨hy.to fun e _ p => ⟨⟨by rw [h1]; decide, by rw [h2, h3]; rfl, by rw [h1]; simpa using p⟩, p⟩, by rw [h3]; decide, by rw [h1]; decide, by rw [h1, h2]; rfl⟩
  have h0 : Ok r.1 (GMod.mk (Str.mk []) (0 : Int) ([] : (List Str)) ([] : (List Int)) ([] : (List GNode))) 0 True (GPar.mk r.1 (0 : Int) (GMod.mk (Str.mk []) (0 : Int) ([] : (List Str)) ([] : (List Int)) ([] : (List GNode))) (0 : Int) (0 : Int)) := ⟨htk, rfl, rfl, Int.le_refl _, by dsimp only; omega, fun _ => ⟨trivial, Int.le_refl _⟩⟩
  let Em : GMod → Prop := fun m => m.names = [] ∧ m.types = [] ∧ m.nodes = []
  have hE : ∀ (y : GPar) m (m' : GMod), Ok r.1 m 0 True y → Ok r.1 m' 0 True (GPar.mk y.l y.at_ m' y.e y.p) := fun y m m' h => ⟨h.toks, h.yl, rfl, h.a0, h.a1, h.ok⟩
  refine T.cal (kind_tot 1 (by decide) h0) fun y1 _ h1 => T.cal (must_tot _ (hE _ _ _ h1.1)) fun y2 _ h2 => ?_
  have hm2 := h2.1.ym
  have e1 := h1.1.ym
  rw [e1] at hm2
  dsimp only at hm2
  refine T.jp (fun y => ∃ m, Em m ∧ Ok r.1 m 0 True y) (fun J k => ?_) fun y ⟨m, hem, hy⟩ => ?_
  · have hb : ∃ m, Em m ∧ Ok r.1 m 0 True y2 := ⟨y2.m, by rw [hm2]; exact ⟨rfl, rfl, rfl⟩, ⟨htk, h2.1.yl, rfl, h2.1.a0, h2.1.a1, h2.1.ok⟩⟩
    obtain ⟨m, hem, hb⟩ := hb
    refine T.cal (is_tot _ hb) fun y3 _ h3 => T.br (fun _ => T.cal (must_tot _ h3.1) fun y4 _ h4 => k _ ⟨m, hem, h4.1⟩) fun _ => ?_
    refine T.cal (is_tot _ h3.1) fun y5 _ h5 => T.br (fun _ => T.cal (must_tot _ (hE _ _ _ h5.1)) fun y4 _ h4 => k _ ⟨_, by rw [h5.1.ym]; exact hem, h4.1⟩) fun _ => ?_
    refine T.cal (is_tot _ h5.1) fun y6 _ h6 => T.br (fun _ => T.cal (must_tot _ (hE _ _ _ h6.1)) fun y4 _ h4 => k _ ⟨_, by rw [h6.1.ym]; exact hem, h4.1⟩) fun _ => k _ ⟨m, hem, h6.1⟩
  refine T.cal (must_tot _ hy) fun y3 _ h3 => T.cal (must_tot _ h3.1) fun y4 _ h4 => ?_
  have hstart : PInv r.1 y4 := by
    have e := h4.1.ym
    exact head y4 ⟨htk, h4.1.yl, rfl, h4.1.a0, h4.1.a1, h4.1.ok⟩ (by rw [e]; exact hem.1) (by rw [e]; exact hem.2.1) (by rw [e]; exact hem.2.2)
  refine T.lp (fun y => PInv r.1 y) (fun y => if y.e = 0 then ((r.1.length : Int) - y.at_).toNat + 1 else 0) hstart (by have := hstart.ok.a0; split <;> omega) fun L y hy hL => ?_
  refine T.jp (fun (q : Bool × GPar) => PInv r.1 q.2 ∧ (q.1 = true → y.e = 0 ∧ q.2.e = 0 ∧ q.2.at_ ≥ y.at_)) (fun J k => T.br (fun he => T.cal (is_tot _ hy.ok) fun u _ hu => ?_) fun _ => k _ ⟨hy, fun h => by cases h⟩) fun q ⟨hq, hqb⟩ => ?_
  · have hge : y.at_ ≤ u.2.at_ := by
      cases hu1 : u.1 with
      | true => have := hu.2.2.1 hu1; omega
      | false => rw [hu.2.2.2 hu1]; omega
    refine k _ ⟨hy.re hu.1.ym (hu.1.yl.trans hy.ok.yl.symm) hge hu.1.a1 (fun e => hu.2.1 ▸ e), fun hb => ?_⟩
    have hb : u.1 = false := by simpa using hb
    have := hu.2.2.2 hb
    dsimp only
    rw [this]
    exact ⟨of_decide_eq_true he, of_decide_eq_true he, Int.le_refl _⟩
  refine T.br (fun hb => ?_) fun hb => ?_
  · obtain ⟨b1, b2, b3⟩ := hqb hb
    refine T.cal (now_tot hq.ok) fun ⟨t, x'⟩ _ ⟨ht, hx⟩ => ?_
    dsimp only at ht hx ⊢
    subst hx
    have hq1 : Ok r.1 q.2.m (q.2.at_ + 0) (q.2.m.names.length ≤ 40 ∧ Kids (Sub 17 q.2.m.nodes) q.2.m.types 0 q.2.m.nodes.length ∧ (q.2.m.names.length : Int) ≤ q.2.at_) q.2 := hq.ok.to fun _ p1 _ => ⟨p1, by omega⟩
    refine T.cal (kind_tot 1 (by decide) hq.ok) fun u _ hu => ?_
    have hu1 : Ok r.1 q.2.m (q.2.at_ + 1) (q.2.m.names.length ≤ 40 ∧ Kids (Sub 17 q.2.m.nodes) q.2.m.types 0 q.2.m.nodes.length ∧ (q.2.m.names.length : Int) ≤ q.2.at_) u.2 := hu.1.to fun e p1 _ => ⟨p1, by have := hu.2.1 e; omega⟩
    refine T.jp (fun b => b = false → u.2.e = 0 → q.2.m.names.length < 40) (fun J k => T.br (fun he => k _ fun hb _ => ?_) fun he => k _ fun _ e => absurd e (of_decide_eq_false he)) fun b hb2 => ?_
    · have := of_decide_eq_false hb
      rw [hu.1.ym] at this
      omega
    refine T.jp (fun y5 => Ok r.1 q.2.m (q.2.at_ + 1) (q.2.m.names.length < 40 ∧ Kids (Sub 17 q.2.m.nodes) q.2.m.types 0 q.2.m.nodes.length ∧ (q.2.m.names.length : Int) ≤ q.2.at_) y5) (fun J k => T.br (fun _ => T.cal (fail_tot _ _ hu1 (by decide)) fun w _ hw => k _ (hw.1.err hw.2)) fun hb3 => k _ (hu1.to fun e p1 p2 => ⟨⟨hb2 hb3 e, p1.2⟩, p2⟩)) fun y5 h5 => ?_
    refine T.cal (must_tot _ h5) fun y6 _ h6 => T.cal (typ_tot r.1 _ _ _ _ 0 h6.1 hq.nodes (Int.le_refl _) rfl) fun v _ ⟨m', hg, hv⟩ => ?_
    have hvm := hv.ym
    have hn := hq.names
    have hn1 : m'.names.length ≤ 9000 := by
      rw [hg.names]
      have h9 := (hq.ok.ok b2).1.2.2
      have := hq.ok.a1
      omega
    have ht1 : m'.types.length = m'.names.length := by rw [hg.types, hg.names]; exact hq.types
    rw [hvm]
    refine T.abl (by simp only [List.length_singleton]; omega) (T.abl (by simp only [List.length_singleton]; omega) (hL _ ⟨⟨hv.toks, hv.yl, rfl, hv.a0, hv.a1, fun e => ?_⟩, hg.lim, ?_, ?_⟩ ?_))
    · obtain ⟨⟨⟨p1, p2, p3⟩, p4, p5⟩, p6⟩ := hv.ok e
      dsimp only
      refine ⟨⟨?_, ?_, ?_⟩, hv.a0⟩
      · rw [hg.names, List.length_append, List.length_singleton]; omega
      · rw [hg.types, p4]
        exact (p2.monoL fun k _ hk => hg.pre k hk).snoc p5
      · rw [hg.names, List.length_append, List.length_singleton]; omega
    · dsimp only; rw [List.length_append, List.length_singleton]; omega
    · dsimp only; rw [List.length_append, List.length_append, List.length_singleton, List.length_singleton]; omega
    · dsimp only
      rw [if_pos b1]
      split
      · rename_i e
        have p6 := (hv.ok e).2
        have := hv.a1
        omega
      · omega
  · refine T.jp (fun (q2 : Bool × GPar) => PInv r.1 q2.2) (fun J k => T.br (fun _ => T.cal (now_tot hq.ok) fun ⟨t, x'⟩ _ ⟨ht, hx⟩ => k _ (by dsimp only at hx ⊢; subst hx; exact hq)) fun _ => k _ hq) fun q2 hq2 => ?_
    refine T.jp (fun (y5 : GPar) => y5.e = 0 → PInv r.1 y5) (fun J k => T.br (fun _ => T.cal (now_tot hq2.ok) fun ⟨t, x'⟩ _ ⟨ht, hx⟩ => ?_) fun _ => k _ fun _ => hq2) fun y5 h5 => ?_
    · dsimp only at hx ⊢
      subst hx
      exact T.cal (fail_tot _ _ hq2.ok (by decide)) fun w _ hw => k _ fun e => absurd e hw.2
    · refine T.br (fun _ => T.some WF.empty) fun he => T.some ?_
      have he : y5.e = 0 := by simpa using he
      have h6 := h5 he
      have h7 := (h6.ok.ok he).1
      exact ⟨h7.1, h6.types, h6.nodes, h7.2.1⟩
end Go.Proofs.YtdcdndflfhaejaaDoor


namespace Go.Proofs.YtdcdndflfhaejaaDoor
open Go.Sy
set_option linter.unusedVariables false

theorem T.eqs {β : Type} {o : Option β} {x : β} (h : T (fun r => r = x) o) : o = some x := by
  obtain ⟨r, h1, h2⟩ := h; rw [h1, h2]
section lists
variable {α β : Type} [DecidableEq α] [DecidableEq β]
/-- One more, if it is not there yet. -/
def add (l : List α) (x : α) : List α := if x ∈ l then l else l ++ [x]
def adds (l xs : List α) : List α := xs.foldl add l
theorem adds_nil (l : List α) : adds l [] = l := rfl
theorem adds_cons (l : List α) (x : α) (xs : List α) : adds l (x :: xs) = adds (add l x) xs := rfl
theorem adds_append (l xs ys : List α) : adds l (xs ++ ys) = adds (adds l xs) ys := by unfold adds; rw [List.foldl_append]
theorem mem_add {l : List α} {x y : α} : y ∈ add l x ↔ y ∈ l ∨ y = x := by
  unfold add
  split
  · rename_i h
    exact ⟨.inl, fun h2 => h2.elim (fun h => h) fun e => by rw [e]; exact h⟩
  · rw [List.mem_append, List.mem_singleton]
theorem mem_adds {xs : List α} : ∀ {l : List α} {y : α}, y ∈ adds l xs ↔ y ∈ l ∨ y ∈ xs := by
  induction xs with
  | nil => intro l y; rw [adds_nil]; simp
  | cons x xs ih => intro l y; rw [adds_cons, ih, mem_add, List.mem_cons, or_assoc]
theorem nodup_add {l : List α} {x : α} (h : l.Nodup) : (add l x).Nodup := by
  unfold add
  split
  · exact h
  · rename_i hx
    rw [List.nodup_append]
    exact ⟨h, by simp, fun a ha b hb => by rw [List.mem_singleton.1 hb]; exact fun e => hx (e ▸ ha)⟩
theorem nodup_adds {xs : List α} : ∀ {l : List α}, l.Nodup → (adds l xs).Nodup := by
  induction xs with
  | nil => intro l h; exact h
  | cons x xs ih => intro l h; rw [adds_cons]; exact ih (nodup_add h)
theorem length_add (l : List α) (x : α) : (add l x).length ≤ l.length + 1 := by
  unfold add; split
  · omega
  · rw [List.length_append, List.length_singleton]; omega
theorem length_adds (xs : List α) : ∀ l : List α, (adds l xs).length ≤ l.length + xs.length := by
  induction xs with
  | nil => intro l; exact Nat.le_refl _
  | cons x xs ih => intro l; rw [adds_cons, List.length_cons]; have := ih (add l x); have := length_add l x; omega
/-- What is found among what there is once, is what there is once of what is found. -/
theorem filterMap_adds (f : α → Option β) (hf : ∀ a b c, f a = some c → f b = some c → a = b) : ∀ (xs l : List α), (adds l xs).filterMap f = adds (l.filterMap f) (xs.filterMap f) := by
  intro xs
  induction xs with
  | nil => intro l; rfl
  | cons x xs ih =>
    intro l
    rw [adds_cons, ih]
    cases hx : f x with
    | none =>
      rw [List.filterMap_cons_none hx]
      congr 1
      unfold add
      split
      · rfl
      · rw [List.filterMap_append]; simp [hx]
    | some c =>
      rw [List.filterMap_cons_some hx, adds_cons]
      congr 1
      unfold add
      have hiff : x ∈ l ↔ c ∈ l.filterMap f := by
        rw [List.mem_filterMap]
        exact ⟨fun h => ⟨x, h, hx⟩, fun ⟨a, h, e⟩ => hf _ _ _ e hx ▸ h⟩
      by_cases h : x ∈ l
      · rw [if_pos h, if_pos (hiff.1 h)]
      · rw [if_neg h, if_neg (fun h2 => h (hiff.2 h2)), List.filterMap_append]
        simp [hx]
theorem length_le_of_nodup : ∀ {a b : List α}, a.Nodup → (∀ x ∈ a, x ∈ b) → a.length ≤ b.length := by
  intro a
  induction a with
  | nil => intro b _ _; exact Nat.zero_le _
  | cons x a ih =>
    intro b hn hs
    rw [List.nodup_cons] at hn
    have hx := hs x List.mem_cons_self
    have h1 := ih (b := b.erase x) hn.2 fun y hy => (List.mem_erase_of_ne (fun e : y = x => hn.1 (e ▸ hy))).2 (hs y (List.mem_cons_of_mem _ hy))
    have h2 := List.length_erase_of_mem hx
    have h3 := List.length_pos_of_mem hx
    rw [List.length_cons]
    omega
/-- The numbers below n. -/
def nums (n : Nat) : List Int := (List.range n).map (fun (k : Nat) => (k : Int))
theorem mem_nums {n : Nat} {x : Int} : x ∈ nums n ↔ 0 ≤ x ∧ x < n := by
  unfold nums
  rw [List.mem_map]
  refine ⟨fun ⟨k, hk, e⟩ => ?_, fun ⟨h1, h2⟩ => ⟨x.toNat, List.mem_range.2 (by omega), by omega⟩⟩
  have := List.mem_range.1 hk
  omega
theorem length_nums (n : Nat) : (nums n).length = n := by unfold nums; rw [List.length_map, List.length_range]
theorem nodup_nums (n : Nat) : (nums n).Nodup := by
  unfold nums
  rw [List.Nodup, List.pairwise_map]
  exact List.Pairwise.imp (fun {a b : Nat} (h : a ≠ b) (e : (a : Int) = (b : Int)) => h (by omega)) (List.nodup_range : (List.range n).Nodup)
end lists

/-! ### Places of names -/
def fndFrom : List Str → Str → Int → Int
  | [], _, _ => -1
  | y :: r, s, k => if y = s then k else fndFrom r s (k + 1)
def fnd (l : List Str) (s : Str) : Int := fndFrom l s 0
theorem fndFrom_spec : ∀ (l : List Str) (s : Str) (k : Int), 0 ≤ k → (fndFrom l s k = -1 ∧ s ∉ l) ∨ (k ≤ fndFrom l s k ∧ fndFrom l s k < k + l.length ∧ l[(fndFrom l s k - k).toNat]? = some s ∧ ∀ j : Nat, j < (fndFrom l s k - k).toNat → l[j]? ≠ some s) := by
  intro l
  induction l with
  | nil => intro s k _; exact .inl ⟨rfl, by simp⟩
  | cons y r ih =>
    intro s k hk
    unfold fndFrom
    by_cases h : y = s
    · rw [if_pos h]
      right
      refine ⟨Int.le_refl _, by simp only [List.length_cons]; omega, by rw [h]; simp, fun j hj => by omega⟩
    · rw [if_neg h]
      rcases ih s (k + 1) (by omega) with ⟨h1, h2⟩ | ⟨h1, h2, h3, h4⟩
      · left
        refine ⟨h1, ?_⟩
        rw [List.mem_cons]
        exact fun h5 => h5.elim (fun e => h e.symm) h2
      · right
        have e : (fndFrom r s (k + 1) - k).toNat = (fndFrom r s (k + 1) - (k + 1)).toNat + 1 := by omega
        refine ⟨by omega, by simp only [List.length_cons]; omega, by rw [e, List.getElem?_cons_succ]; exact h3, fun j hj => ?_⟩
        cases j with
        | zero => simp only [List.getElem?_cons_zero]; exact fun e => h (Option.some.inj e)
        | succ j => rw [List.getElem?_cons_succ]; exact h4 j (by omega)
theorem fnd_spec (l : List Str) (s : Str) : (fnd l s = -1 ∧ s ∉ l) ∨ (0 ≤ fnd l s ∧ fnd l s < l.length ∧ l[(fnd l s).toNat]? = some s ∧ ∀ j : Nat, j < (fnd l s).toNat → l[j]? ≠ some s) := by
  have := fndFrom_spec l s 0 (Int.le_refl _)
  unfold fnd
  simpa using this
/-- The place, if there is one. -/
def idx (l : List Str) (s : Str) : Option Int := if fnd l s < 0 then none else some (fnd l s)
theorem idx_inj (l : List Str) : ∀ a b c, idx l a = some c → idx l b = some c → a = b := by
  intro a b c h1 h2
  unfold idx at h1 h2
  split at h1
  · cases h1
  split at h2
  · cases h2
  cases h1
  have h3 := Option.some.inj h2
  rcases fnd_spec l a with h | h
  · omega
  rcases fnd_spec l b with h' | h'
  · omega
  have e1 := h.2.2.1
  have e2 := h'.2.2.1
  rw [h3, e1] at e2
  cases e2; rfl
theorem idx_range {l : List Str} {s : Str} {c : Int} (h : idx l s = some c) : 0 ≤ c ∧ c < l.length := by
  unfold idx at h
  split at h
  · cases h
  cases h
  rcases fnd_spec l s with h' | h'
  · omega
  · exact ⟨h'.1, h'.2.1⟩
theorem find7_eq (m : GMod) (s : Str) (hl : m.names.length ≤ 1000000) : r07_Find m s = some (fnd m.names s) := by
  refine T.eqs ?_
  unfold r07_Find
  refine T.lp (fun (k : Int) => 0 ≤ k ∧ k ≤ (m.names.length : Int) ∧ fnd m.names s = fndFrom (m.names.drop k.toNat) s k) (fun (k : Int) => ((m.names.length : Int) - k).toNat) ⟨Int.le_refl _, by omega, rfl⟩ (by omega) fun L k ⟨h1, h2, h3⟩ hL => ?_
  refine T.br (fun hb => ?_) fun hb => T.some ?_
  · have hb := of_decide_eq_true hb
    refine T.get h1 hb fun y hy => ?_
    have hd : m.names.drop k.toNat = y :: m.names.drop (k.toNat + 1) := by
      rw [List.drop_eq_getElem_cons (by omega)]
      rw [List.getElem?_eq_getElem (by omega)] at hy
      rw [Option.some.inj hy]
    rw [hd] at h3
    unfold fndFrom at h3
    refine T.br (fun he => T.some ?_) fun he => T.ck (by omega) (hL _ ⟨by omega, by omega, ?_⟩ (by omega))
    · rw [h3, if_pos (of_decide_eq_true he)]
    · have e : (k + 1).toNat = k.toNat + 1 := by omega
      rw [h3, if_neg (of_decide_eq_false he), e]
  · have hb := of_decide_eq_false hb
    rw [List.drop_eq_nil_of_le (by omega)] at h3
    exact h3.symm
theorem index_eq (l : List Str) (s : Str) (hl : l.length ≤ 1000000) : slices_Index_Lstring_string l s = some (fnd l s) := by
  refine T.eqs ?_
  unfold slices_Index_Lstring_string
  refine T.lp (fun (k : Int) => 0 ≤ k ∧ k ≤ (l.length : Int) ∧ fnd l s = fndFrom (l.drop k.toNat) s k) (fun (k : Int) => ((l.length : Int) - k).toNat) ⟨Int.le_refl _, by omega, rfl⟩ (by omega) fun L k ⟨h1, h2, h3⟩ hL => ?_
  refine T.br (fun hb => ?_) fun hb => T.some ?_
  · have hb := of_decide_eq_true hb
    refine T.get h1 hb fun y hy => ?_
    have hd : l.drop k.toNat = y :: l.drop (k.toNat + 1) := by
      rw [List.drop_eq_getElem_cons (by omega)]
      rw [List.getElem?_eq_getElem (by omega)] at hy
      rw [Option.some.inj hy]
    rw [hd] at h3
    unfold fndFrom at h3
    refine T.br (fun he => T.some ?_) fun he => T.ck (by omega) (hL _ ⟨by omega, by omega, ?_⟩ (by omega))
    · rw [h3, if_pos (of_decide_eq_true he).symm]
    · have e : (k + 1).toNat = k.toNat + 1 := by omega
      rw [h3, if_neg (fun h => of_decide_eq_false he h.symm), e]
  · have hb := of_decide_eq_false hb
    rw [List.drop_eq_nil_of_le (by omega)] at h3
    exact h3.symm
theorem find_eq (m : GMod) (s : Str) (hl : m.names.length ≤ 1000000) : refs_Find m s = some (fnd m.names s) := by
  unfold refs_Find
  exact T.eqs (T.eq (index_eq _ _ hl) (T.some rfl))
theorem fnd_mem (l : List Str) (s : Str) : decide ((0 : Int) ≤ fnd l s) = decide (s ∈ l) := by
  rcases fnd_spec l s with h | h
  · rw [decide_eq_false h.2, decide_eq_false (by omega)]
  · rw [decide_eq_true h.1, decide_eq_true (List.mem_of_getElem? h.2.2.1)]
theorem contains_eq (l : List Str) (s : Str) (hl : l.length ≤ 1000000) : slices_Contains_Lstring_string l s = some (decide (s ∈ l)) := by
  unfold slices_Contains_Lstring_string
  exact T.eqs (T.eq (index_eq _ _ hl) (T.some (fnd_mem l s)))
theorem with1_eq (l : List Str) (s : Str) (hl : l.length ≤ 10000) : refs_with l [s] = some (add l s) := by
  refine T.eqs ?_
  unfold refs_with
  refine T.lp (fun (q : List Str × Int) => (q.2 = 0 ∧ q.1 = l) ∨ (q.2 = 1 ∧ q.1 = add l s)) (fun (q : List Str × Int) => (1 - q.2).toNat) (.inl ⟨rfl, rfl⟩) (by dsimp only; omega) fun L q hq hL => ?_
  obtain ⟨l1, k⟩ := q
  dsimp only at hq ⊢
  refine T.br (fun hb => ?_) fun hb => T.some ?_
  · have hb : k < 1 := of_decide_eq_true hb
    rcases hq with ⟨h1, h2⟩ | ⟨h1, h2⟩
    · subst h1; subst h2
      refine T.jp (fun q => q = add l1 s) (fun J h => T.get (Int.le_refl _) (by simp) fun y hy => ?_) fun q hq => T.ck (by omega) (hL _ (.inr ⟨rfl, hq⟩) (by dsimp only; omega))
      have hy : s = y := by simpa using hy
      subst hy
      refine T.eq (contains_eq _ _ (by omega)) (T.br (fun h3 => T.abl (by simp only [List.length_singleton]; omega) (h _ ?_)) fun h3 => h _ ?_)
      · unfold add; rw [if_neg (by simpa using h3)]
      · unfold add; rw [if_pos (by simpa using h3)]
    · omega
  · have hb : ¬ k < 1 := of_decide_eq_false hb
    rcases hq with ⟨h1, h2⟩ | ⟨h1, h2⟩
    · omega
    · exact h2
end Go.Proofs.YtdcdndflfhaejaaDoor


namespace Go.Proofs.YtdcdndflfhaejaaDoor
open Go.Sy
set_option linter.unusedVariables false

/-- The names that the type of a node refers to, in order, with doubles. -/
def nm (l : List GNode) : Nat → Int → List Str
  | 0, _ => []
  | h + 1, i => match (if 0 ≤ i then l[i.toNat]? else none) with
    | none => []
    | some n => if n.kind = 11 then [n.name] else (kidsOf n).flatMap (nm l h)
theorem nm_node {l : List GNode} {h : Nat} {i : Nat} {n : GNode} (e : l[i]? = some n) : nm l (h + 1) (i : Int) = if n.kind = 11 then [n.name] else (kidsOf n).flatMap (nm l h) := by
  rw [nm, if_pos (by omega)]
  have : ((i : Int)).toNat = i := by omega
  rw [this, e]
theorem Kids.append {S : Nat → Nat → Prop} {ys : List Int} : ∀ {xs : List Int} {a b : Nat}, Kids S (xs ++ ys) a b → ∃ c, Kids S xs a c ∧ Kids S ys c b := by
  intro xs
  induction xs with
  | nil => intro a b h; exact ⟨a, rfl, h⟩
  | cons k r ih => intro a b ⟨c, h0, h1, h2⟩; obtain ⟨d, h3, h4⟩ := ih h2; exact ⟨d, ⟨c, h0, h1, h3⟩, h4⟩
theorem nm_len : ∀ {h l i j}, Sub h l i j → (nm l h (i : Int)).length ≤ j - i := by
  intro h
  induction h with
  | zero => intro l i j h; exact h.elim
  | succ h ih =>
    intro l i j hs
    have hlt := hs.lt
    obtain ⟨n, h1, h2⟩ := hs
    rw [nm_node h1]
    split
    · simp only [List.length_singleton]; omega
    · have key : ∀ (r : List Int) a b, Kids (Sub h l) r a b → (r.flatMap (nm l h)).length ≤ b - a := by
        intro r
        induction r with
        | nil => intro a b _; simp
        | cons k r ihr =>
          intro a b hk
          have hle := Kids.le (fun x y h => Nat.le_of_lt h.lt) hk
          obtain ⟨c, h3, h4, h5⟩ := hk
          have hle2 := Kids.le (fun x y h => Nat.le_of_lt h.lt) h5
          have := h4.lt
          have h6 := ih h4
          have h7 := ihr _ _ h5
          rw [List.flatMap_cons, List.length_append, h3]
          omega
      have := key _ _ _ h2
      omega
theorem Kids.length {h : Nat} {l : List GNode} : ∀ {r a b}, Kids (Sub h l) r a b → r.length ≤ b - a := by
  intro r
  induction r with
  | nil => intro a b _; exact Nat.zero_le _
  | cons k r ih =>
    intro a b ⟨c, _, h4, h5⟩
    have := h4.lt
    have := ih h5
    have := Kids.le (fun x y h => Nat.le_of_lt h.lt) h5
    rw [List.length_cons]
    omega
/-- Each node of a forest bears a tree. -/
theorem Kids.sub {h : Nat} {l : List GNode} : ∀ {r a b}, Kids (Sub h l) r a b → ∀ i, a ≤ i → i < b → ∃ h' j, h' ≤ h ∧ Sub h' l i j ∧ j ≤ b := by
  induction h with
  | zero =>
    intro r a b hk i h1 h2
    cases r with
    | nil => cases hk; omega
    | cons k r => obtain ⟨c, _, h, _⟩ := hk; exact h.elim
  | succ h ih =>
    intro r
    induction r with
    | nil => intro a b hk i h1 h2; cases hk; omega
    | cons k r ihr =>
      intro a b ⟨c, h3, h4, h5⟩ i h1 h2
      have hle := Kids.le (fun x y h => Nat.le_of_lt h.lt) h5
      rcases Nat.lt_or_ge i c with h6 | h6
      · rcases Nat.lt_or_ge a i with h7 | h7
        · obtain ⟨n, h8, h9⟩ := h4
          obtain ⟨h', j, e1, e2, e3⟩ := ih h9 i (by omega) h6
          exact ⟨h', j, by omega, e2, by omega⟩
        · have : i = a := by omega
          subst this
          exact ⟨h + 1, c, Nat.le_refl _, h4, hle⟩
      · exact ihr h5 i h6 h2

/-! ### The program's walk -/
theorem refers1_eq (n : GNode) (acc : List Str) (hl : acc.length ≤ 10000) : refs_refers_c1 n acc = some (if n.kind = 11 then add acc n.name else acc) := by
  refine T.eqs ?_
  unfold refs_refers_c1
  refine T.br (fun h => T.eq (with1_eq _ _ hl) (T.some ?_)) fun h => T.some ?_
  · rw [if_pos (of_decide_eq_true h)]
  · rw [if_neg (of_decide_eq_false h)]
/-- What the walk of a tree does. -/
def WalkS (m : GMod) (f : GMod → Int → List Bool → List Str → Option (List Bool × List Str)) (h : Nat) : Prop := ∀ i j seen acc, Sub h m.nodes i j → j ≤ m.nodes.length → seen.length = m.nodes.length → (∀ k, i ≤ k → k < j → seen[k]? = some false) → acc.length ≤ i →
  T (fun r => r.1.length = seen.length ∧ (∀ k, j ≤ k → r.1[k]? = seen[k]?) ∧ r.2 = adds acc (nm m.nodes h i) ∧ r.2.length ≤ j) (f m i seen acc)
theorem walk_step {m f h} (hl : m.nodes.length ≤ 300) (ih : WalkS m f h) : WalkS m (refs_walk_F f) (h + 1) := by
  intro i j seen acc hs hj hsl hsf hacc
  have hij := hs.lt
  obtain ⟨n, hn, hk⟩ := hs
  unfold refs_walk_F
  have hi : i < m.nodes.length := by omega
  have hsi := hsf i (Nat.le_refl _) hij
  have htn : ((i : Int)).toNat = i := by omega
  refine T.jp (fun b => b = false) (fun J k => T.br (fun hb => by have := of_decide_eq_true hb; omega) fun _ => k _ (decide_eq_false (by omega))) fun b hb => ?_
  subst hb
  refine T.jp (fun b => b = false) (fun J k => T.br (fun hb => by cases hb) fun _ => T.asd (by omega) (T.eq (y := false) (by rw [htn]; exact hsi) (k _ rfl))) fun b hb => ?_
  subst hb
  refine T.br (fun hb => by cases hb) fun _ => T.asd (by omega) (T.eq (y := false) (by rw [htn]; exact hsi) ?_)
  refine T.get (by omega) (by omega) fun n' hn' => ?_
  rw [htn, hn] at hn'
  cases hn'
  refine T.eq (refers1_eq _ _ (by omega)) ?_
  rw [nm_node hn]
  have hset : ∀ k, i + 1 ≤ k → (seen.set i true)[k]? = seen[k]? := fun k hk => List.getElem?_set_ne (by omega)
  refine T.br (fun hr => T.some ?_) fun hr => ?_
  · have hr := of_decide_eq_true hr
    rw [if_pos hr, if_pos hr]
    refine ⟨by rw [htn]; exact List.length_set, fun k hk => by rw [htn]; exact hset k (by omega), rfl, ?_⟩
    have := length_add acc n.name
    dsimp only
    omega
  · have hr := of_decide_eq_false hr
    rw [if_neg hr, if_neg hr]
    unfold kidsOf at hk ⊢
    rw [if_neg hr] at hk ⊢
    obtain ⟨c, hk1, hk2⟩ := Kids.append hk
    rw [List.flatMap_append]
    have hc := Kids.le (fun x y h => Nat.le_of_lt h.lt) hk2
    have hfl := hk1.length
    rw [List.length_map] at hfl
    refine T.lp (fun (q : List Bool × Int × List Str) => 0 ≤ q.2.1 ∧ q.2.1 ≤ (n.fields.length : Int) ∧ ∃ d, Kids (Sub h m.nodes) ((n.fields.drop q.2.1.toNat).map (fun f => f.ty)) d c ∧ i + 1 ≤ d ∧ q.1.length = seen.length ∧ (∀ k, d ≤ k → q.1[k]? = seen[k]?) ∧ adds q.2.2 (((n.fields.drop q.2.1.toNat).map (fun f => f.ty)).flatMap (nm m.nodes h)) = adds acc ((n.fields.map (fun f => f.ty)).flatMap (nm m.nodes h)) ∧ q.2.2.length ≤ d) (fun (q : List Bool × Int × List Str) => ((n.fields.length : Int) - q.2.1).toNat)
      ⟨Int.le_refl _, by dsimp only; omega, i + 1, hk1, Nat.le_refl _, by dsimp only; rw [htn]; exact List.length_set, fun k hk => by dsimp only; rw [htn]; exact hset k hk, rfl, by dsimp only; omega⟩ ?_ fun L q hq hL => ?_
    · dsimp only; omega
    · obtain ⟨s1, k, a1⟩ := q
      obtain ⟨q1, q2, d, q3, q4, q5, q6, q7, q8⟩ := hq
      dsimp only at q1 q2 q3 q5 q6 q7 q8 ⊢
      have hd := Kids.le (fun x y h => Nat.le_of_lt h.lt) q3
      refine T.br (fun hb => ?_) fun hb => ?_
      · have hb := of_decide_eq_true hb
        refine T.get q1 hb fun y hy => ?_
        have hdr : n.fields.drop k.toNat = y :: n.fields.drop (k.toNat + 1) := by
          rw [List.drop_eq_getElem_cons (by omega)]
          rw [List.getElem?_eq_getElem (by omega)] at hy
          rw [Option.some.inj hy]
        have ek : (k + 1).toNat = k.toNat + 1 := by omega
        rw [hdr, List.map_cons] at q3 q7
        obtain ⟨c1, e1, e2, e3⟩ := q3
        have hc1 := Kids.le (fun x y h => Nat.le_of_lt h.lt) e3
        have := e2.lt
        rw [e1]
        refine T.cal (ih d c1 s1 a1 e2 (by omega) (by omega) (fun k hk1 hk2 => by rw [q6 k hk1]; exact hsf k (by omega) (by omega)) q8) fun r _ ⟨r1, r2, r3, r4⟩ => T.asd r1 (T.ck (by omega) (hL _ ⟨by dsimp only; omega, by dsimp only; omega, c1, ?_, by omega, r1.trans q5, fun k hk => (r2 k hk).trans (q6 k (by omega)), ?_, r4⟩ (by dsimp only; omega)))
        · dsimp only; rw [ek]; exact e3
        · dsimp only
          rw [ek, r3, ← q7, List.flatMap_cons, adds_append, e1]
      · have hb := of_decide_eq_false hb
        rw [List.drop_eq_nil_of_le (by omega)] at q3 q7
        cases q3
        rw [adds_append, ← q7]
        refine T.br (fun hl10 => ?_) fun hl10 => T.some ?_
        · have h10 := of_decide_eq_true hl10
          rw [if_pos h10] at hk2 ⊢
          obtain ⟨c1, e1, e2, e3⟩ := hk2
          cases e3
          rw [e1]
          refine T.cal (ih c j s1 a1 e2 (by omega) (by omega) (fun k hk1 hk2 => by rw [q6 k hk1]; exact hsf k (by omega) (by omega)) q8) fun r _ ⟨r1, r2, r3, r4⟩ => T.asd r1 (T.some ⟨r1.trans q5, fun k hk => (r2 k hk).trans (q6 k (by omega)), ?_, r4⟩)
          rw [r3]
          simp [adds_nil]
        · have h10 := of_decide_eq_false hl10
          rw [if_neg h10] at hk2 ⊢
          cases hk2
          exact ⟨q5, q6, rfl, q8⟩
end Go.Proofs.YtdcdndflfhaejaaDoor


namespace Go.Proofs.YtdcdndflfhaejaaDoor
open Go.Sy
set_option linter.unusedVariables false

theorem flatMap_eq {α β : Type} {f g : α → List β} : ∀ {l : List α}, (∀ x ∈ l, f x = g x) → l.flatMap f = l.flatMap g := by
  intro l
  induction l with
  | nil => intro _; rfl
  | cons x l ih => intro h; rw [List.flatMap_cons, List.flatMap_cons, h x List.mem_cons_self, ih fun y hy => h y (List.mem_cons_of_mem _ hy)]
theorem Kids.mem {S : Nat → Nat → Prop} {k : Int} : ∀ {r a b}, Kids S r a b → k ∈ r → ∃ (c d : Nat), k = (c : Int) ∧ S c d := by
  intro r
  induction r with
  | nil => intro a b _ h; cases h
  | cons x r ih =>
    intro a b ⟨c, h1, h2, h3⟩ h
    rcases List.mem_cons.1 h with e | e
    · exact ⟨a, c, e.trans h1, h2⟩
    · exact ih h3 e
theorem nm_mono : ∀ {h h' l i j}, Sub h l i j → h ≤ h' → nm l h' (i : Int) = nm l h (i : Int) := by
  intro h
  induction h with
  | zero => intro h' l i j hs; exact hs.elim
  | succ h ih =>
    intro h' l i j ⟨n, h1, h2⟩ hle
    obtain ⟨h'', rfl⟩ : ∃ h'', h' = h'' + 1 := ⟨h' - 1, by omega⟩
    rw [nm_node h1, nm_node h1]
    split
    · rfl
    · refine flatMap_eq fun k hk => ?_
      obtain ⟨c, d, e1, e2⟩ := h2.mem hk
      rw [e1]
      exact ih e2 (by omega)
theorem nm_out {l : List GNode} {h : Nat} {i : Int} (hi : i < 0 ∨ (l.length : Int) ≤ i) : nm l h i = [] := by
  cases h with
  | zero => rfl
  | succ h =>
    rw [nm]
    have : (if 0 ≤ i then l[i.toNat]? else none) = none := by
      split
      · rename_i h0
        exact List.getElem?_eq_none (by omega)
      · rfl
    rw [this]

theorem walk_all (m : GMod) (hl : m.nodes.length ≤ 300) : ∀ h n, h ≤ n → WalkS m (refs_walk n) h := by
  intro h
  induction h with
  | zero => intro n _ i j seen acc hs; exact hs.elim
  | succ h ih =>
    intro n hn
    obtain ⟨n', rfl⟩ : ∃ n', n = n' + 1 := ⟨n - 1, by omega⟩
    exact walk_step hl (ih n' (by omega))
theorem walk_out {m n i seen acc} (hi : i < 0 ∨ (m.nodes.length : Int) ≤ i) : refs_walk (n + 1) m i seen acc = some (seen, acc) := by
  refine T.eqs ?_
  show T _ (refs_walk_F (refs_walk n) m i seen acc)
  unfold refs_walk_F
  refine T.jp (fun b => b = true) (fun J k => T.br (fun _ => k _ rfl) fun hb => k _ (decide_eq_true (by have := of_decide_eq_false hb; omega))) fun b hb => ?_
  subst hb
  refine T.jp (fun b => b = true) (fun J k => T.br (fun _ => k _ rfl) fun hb => by cases hb) fun b hb => ?_
  subst hb
  exact T.br (fun _ => T.some rfl) fun hb => by cases hb
theorem WF.at {m : GMod} (w : WF m) {i : Nat} (hi : i < m.nodes.length) : ∃ h j, h ≤ 17 ∧ Sub h m.nodes i j ∧ j ≤ m.nodes.length := w.forest.sub i (Nat.zero_le _) hi
/-- The names that a type refers to, with doubles. -/
def nms (m : GMod) (node : Int) : List Str := nm m.nodes 17 node
theorem refers_eq {m : GMod} (w : WF m) (node : Int) : refs_refers m node = some (adds [] (nms m node)) := by
  refine T.eqs ?_
  unfold refs_refers
  have hl := w.nodes
  refine T.asd (by omega) ?_
  have hrep : (List.replicate ((m.nodes.length : Int)).toNat false).length = m.nodes.length := by rw [List.length_replicate]; omega
  by_cases hi : node < 0 ∨ (m.nodes.length : Int) ≤ node
  · obtain ⟨f', hf⟩ : ∃ f', fuel = f' + 1 := ⟨fuel - 1, by unfold fuel; omega⟩
    rw [hf]
    refine T.eq (walk_out hi) (T.asd rfl (T.some ?_))
    unfold nms
    rw [nm_out hi]; rfl
  · obtain ⟨i, rfl⟩ : ∃ i : Nat, node = (i : Int) := ⟨node.toNat, by omega⟩
    obtain ⟨h, j, h1, h2, h3⟩ := w.at (i := i) (by omega)
    refine T.cal (walk_all m hl h fuel (by unfold fuel; omega) i j _ _ h2 h3 hrep (fun k _ hk => ?_) (Nat.zero_le _)) fun r _ ⟨r1, r2, r3, r4⟩ => T.asd r1 (T.some ?_)
    · rw [List.getElem?_replicate_of_lt (by omega)]
    · rw [r3]; unfold nms; rw [nm_mono h2 h1]
theorem nms_len {m : GMod} (w : WF m) (node : Int) : (nms m node).length ≤ 300 := by
  have hl := w.nodes
  unfold nms
  by_cases hi : node < 0 ∨ (m.nodes.length : Int) ≤ node
  · rw [nm_out hi]; simp
  · obtain ⟨i, rfl⟩ : ∃ i : Nat, node = (i : Int) := ⟨node.toNat, by omega⟩
    obtain ⟨h, j, h1, h2, h3⟩ := w.at (i := i) (by omega)
    rw [nm_mono h2 h1]
    have := nm_len h2
    omega
/-- The places that a type refers to. -/
def uses (m : GMod) (node : Int) : List Int := adds [] ((nms m node).filterMap (idx m.names))
/-- Does it refer to a name that there is not? -/
def lost (m : GMod) (node : Int) : Bool := (nms m node).any (fun s => fnd m.names s < 0)
theorem drop_cons {α : Type} {l : List α} {k : Int} {y : α} (h0 : 0 ≤ k) (h : l[k.toNat]? = some y) : l.drop k.toNat = y :: l.drop (k + 1).toNat := by
  have hk : k.toNat < l.length := by
    rcases Nat.lt_or_ge k.toNat l.length with h1 | h1
    · exact h1
    · rw [List.getElem?_eq_none h1] at h; cases h
  have e : (k + 1).toNat = k.toNat + 1 := by omega
  rw [e, List.drop_eq_getElem_cons hk]
  rw [List.getElem?_eq_getElem hk] at h
  rw [Option.some.inj h]
theorem uses_eq {m : GMod} (w : WF m) (node : Int) : refs_Uses m node = some (uses m node) := by
  refine T.eqs ?_
  unfold refs_Uses
  refine T.eq (refers_eq w node) ?_
  have hn := w.names
  have hlen := length_adds (nms m node) []
  have hnl := nms_len w node
  rw [List.length_nil] at hlen
  have e0 : uses m node = ((adds [] (nms m node)).filterMap (idx m.names)) := by
    unfold uses; rw [filterMap_adds _ (idx_inj _)]; rfl
  rw [e0]
  generalize adds [] (nms m node) = l at hlen
  refine T.lp (fun (q : List Int × Int) => 0 ≤ q.2 ∧ q.2 ≤ (l.length : Int) ∧ q.1 ++ (l.drop q.2.toNat).filterMap (idx m.names) = l.filterMap (idx m.names) ∧ (q.1.length : Int) ≤ q.2) (fun (q : List Int × Int) => ((l.length : Int) - q.2).toNat) ⟨Int.le_refl _, by dsimp only; omega, rfl, by simp⟩ (by dsimp only; omega) fun L q ⟨h1, h2, h3, h4⟩ hL => ?_
  obtain ⟨o, k⟩ := q
  dsimp only at h1 h2 h3 h4 ⊢
  refine T.br (fun hb => ?_) fun hb => T.some ?_
  · have hb := of_decide_eq_true hb
    refine T.jp (fun o' => o' ++ (l.drop (k + 1).toNat).filterMap (idx m.names) = l.filterMap (idx m.names) ∧ (o'.length : Int) ≤ k + 1) (fun J h => T.get h1 hb fun y hy => ?_) fun o' ho => T.ck (by omega) (hL _ ⟨by dsimp only; omega, by dsimp only; omega, ho.1, ho.2⟩ (by dsimp only; omega))
    rw [drop_cons h1 hy] at h3
    refine T.eq (find_eq m y (by omega)) (T.br (fun hf => T.abl (by simp only [List.length_singleton]; omega) (h _ ⟨?_, by simp only [List.length_append, List.length_singleton]; omega⟩)) fun hf => h _ ⟨?_, by omega⟩)
    · have hf := of_decide_eq_true hf
      have : idx m.names y = some (fnd m.names y) := by unfold idx; rw [if_neg (by omega)]
      rw [List.filterMap_cons_some this] at h3
      rw [← h3]; simp
    · have hf := of_decide_eq_false hf
      have : idx m.names y = none := by unfold idx; rw [if_pos (by omega)]
      rw [List.filterMap_cons_none this] at h3
      exact h3
  · have hb := of_decide_eq_false hb
    rw [List.drop_eq_nil_of_le (by omega)] at h3
    simpa using h3
theorem lost_eq {m : GMod} (w : WF m) (node : Int) : refs_lost m node = some (lost m node) := by
  refine T.eqs ?_
  unfold refs_lost
  refine T.eq (refers_eq w node) ?_
  have hn := w.names
  have hlen := length_adds (nms m node) []
  have hnl := nms_len w node
  rw [List.length_nil] at hlen
  have e0 : lost m node = (adds [] (nms m node)).any (fun s => decide (fnd m.names s < 0)) := by
    unfold lost
    rw [Bool.eq_iff_iff, List.any_eq_true, List.any_eq_true]
    exact ⟨fun ⟨x, h1, h2⟩ => ⟨x, mem_adds.2 (.inr h1), h2⟩, fun ⟨x, h1, h2⟩ => ⟨x, by simpa using mem_adds.1 h1, h2⟩⟩
  rw [e0]
  generalize adds [] (nms m node) = l at hlen
  have key : T (fun r => decide ((0 : Int) ≤ r) = l.any (fun s => decide (fnd m.names s < 0))) (slices_IndexFunc_Lstring_string l m) := by
    unfold slices_IndexFunc_Lstring_string
    refine T.lp (fun (q : Int) => 0 ≤ q ∧ q ≤ (l.length : Int) ∧ l.any (fun s => decide (fnd m.names s < 0)) = (l.drop q.toNat).any (fun s => decide (fnd m.names s < 0))) (fun (q : Int) => ((l.length : Int) - q).toNat) ⟨Int.le_refl _, by omega, rfl⟩ (by omega) fun L k ⟨h1, h2, h4⟩ hL => ?_
    refine T.br (fun hb => ?_) fun hb => T.some ?_
    · have hb := of_decide_eq_true hb
      refine T.get h1 hb fun y hy => ?_
      rw [drop_cons h1 hy, List.any_cons] at h4
      refine T.eq (y := decide (fnd m.names y < 0)) (T.eqs (by unfold refs_lost_c1; exact T.eq (find_eq _ _ (by omega)) (T.some rfl))) (T.br (fun hf => T.some ?_) fun hf => T.ck (by omega) (hL _ ⟨by omega, by omega, ?_⟩ (by omega)))
      · rw [h4, hf]; simpa using h1
      · rw [h4, hf]; rfl
    · have hb := of_decide_eq_false hb
      rw [List.drop_eq_nil_of_le (by omega)] at h4
      rw [h4]; rfl
  unfold slices_ContainsFunc_Lstring_string
  refine T.cal (Q := fun r => r = l.any (fun s => decide (fnd m.names s < 0))) (T.cal key fun r _ hr => T.some hr) fun r _ hr => T.some (by rw [hr])
end Go.Proofs.YtdcdndflfhaejaaDoor


namespace Go.Proofs.YtdcdndflfhaejaaDoor
open Go.Sy
set_option linter.unusedVariables false

theorem in_int_eq (l : List Int) (x : Int) (hl : l.length ≤ 1000000) : h_In_int l x = some (decide (x ∈ l)) := by
  refine T.eqs ?_
  unfold h_In_int
  refine T.lp (fun (k : Int) => 0 ≤ k ∧ k ≤ (l.length : Int) ∧ (x ∈ l ↔ x ∈ l.drop k.toNat)) (fun (k : Int) => ((l.length : Int) - k).toNat) ⟨Int.le_refl _, by omega, Iff.rfl⟩ (by omega) fun L k ⟨h1, h2, h3⟩ hL => ?_
  refine T.br (fun hb => ?_) fun hb => T.some ?_
  · have hb := of_decide_eq_true hb
    refine T.get h1 hb fun y hy => ?_
    rw [drop_cons h1 hy, List.mem_cons] at h3
    refine T.br (fun he => T.some (decide_eq_true (h3.2 (.inl (of_decide_eq_true he).symm))).symm) fun he => T.ck (by omega) (hL _ ⟨by omega, by omega, ?_⟩ (by omega))
    rw [h3]
    exact ⟨fun h => h.elim (fun e => absurd e.symm (of_decide_eq_false he)) fun h => h, .inr⟩
  · have hb := of_decide_eq_false hb
    rw [List.drop_eq_nil_of_le (by omega)] at h3
    exact (decide_eq_false (fun h => by cases h3.1 h)).symm

def UsesS (m : GMod) (f : GMod → Int → Int → List Int → Option (List Int × Bool)) (h : Nat) : Prop := ∀ i j (d : Int) acc, Sub h m.nodes i j → j ≤ m.nodes.length → 0 ≤ d → d + h ≤ 17 → acc.length ≤ i →
  T (fun r => r.1 = adds acc ((nm m.nodes h i).filterMap (idx m.names)) ∧ r.2 = (nm m.nodes h i).any (fun s => decide (fnd m.names s < 0)) ∧ r.1.length ≤ j) (f m i d acc)
theorem uses7_step {m f h} (w : WF m) (ih : UsesS m f h) : UsesS m (r07_uses_F f) (h + 1) := by
  intro i j d acc hs hj hd0 hd hacc
  have hl := w.nodes
  have hnl := w.names
  have hij := hs.lt
  obtain ⟨n, hn, hk⟩ := hs
  unfold r07_uses_F
  have hi : i < m.nodes.length := by omega
  have htn : ((i : Int)).toNat = i := by omega
  refine T.jp (fun b => b = false) (fun J k => T.br (fun hb => by have := of_decide_eq_true hb; omega) fun _ => k _ (decide_eq_false (by omega))) fun b hb => ?_
  subst hb
  refine T.jp (fun b => b = false) (fun J k => T.br (fun hb => by cases hb) fun _ => k _ (decide_eq_false (by omega))) fun b hb => ?_
  subst hb
  refine T.br (fun hb => by cases hb) fun _ => ?_
  refine T.get (by omega) (by omega) fun n' hn' => ?_
  rw [htn, hn] at hn'
  cases hn'
  rw [nm_node hn]
  refine T.br (fun hr => ?_) fun hr => ?_
  · have hr := of_decide_eq_true hr
    rw [if_pos hr]
    refine T.eq (find7_eq _ _ (by omega)) (T.br (fun hf => T.some ⟨?_, ?_, by dsimp only; omega⟩) fun hf => T.eq (in_int_eq _ _ (by omega)) (T.jp (fun l => l = add acc (fnd m.names n.name)) (fun J k => T.br (fun hin => T.abl (by simp only [List.length_singleton]; omega) (k _ ?_)) fun hin => k _ ?_) fun l hlq => T.some ⟨?_, ?_, ?_⟩))
    · have hf := of_decide_eq_true hf
      have : idx m.names n.name = none := by unfold idx; rw [if_pos hf]
      rw [List.filterMap_cons_none this]; rfl
    · rw [List.any_cons, hf]; rfl
    · unfold add; rw [if_neg (by simpa using hin)]
    · unfold add; rw [if_pos (by simpa using hin)]
    · have hf := of_decide_eq_false hf
      have : idx m.names n.name = some (fnd m.names n.name) := by unfold idx; rw [if_neg hf]
      rw [List.filterMap_cons_some this, hlq]; rfl
    · rw [List.any_cons, hf]; rfl
    · have := length_add acc (fnd m.names n.name)
      dsimp only
      rw [hlq]; omega
  · have hr := of_decide_eq_false hr
    rw [if_neg hr]
    unfold kidsOf at hk ⊢
    rw [if_neg hr] at hk ⊢
    obtain ⟨c, hk1, hk2⟩ := Kids.append hk
    rw [List.flatMap_append]
    have hc := Kids.le (fun x y h => Nat.le_of_lt h.lt) hk2
    have hfl := hk1.length
    rw [List.length_map] at hfl
    refine T.lp (fun (q : List Int × Bool × Int) => 0 ≤ q.2.2 ∧ q.2.2 ≤ (n.fields.length : Int) ∧ ∃ e, Kids (Sub h m.nodes) ((n.fields.drop q.2.2.toNat).map (fun f => f.ty)) e c ∧ i + 1 ≤ e ∧ adds q.1 ((((n.fields.drop q.2.2.toNat).map (fun f => f.ty)).flatMap (nm m.nodes h)).filterMap (idx m.names)) = adds acc (((n.fields.map (fun f => f.ty)).flatMap (nm m.nodes h)).filterMap (idx m.names)) ∧ (q.2.1 || (((n.fields.drop q.2.2.toNat).map (fun f => f.ty)).flatMap (nm m.nodes h)).any (fun s => decide (fnd m.names s < 0))) = ((n.fields.map (fun f => f.ty)).flatMap (nm m.nodes h)).any (fun s => decide (fnd m.names s < 0)) ∧ q.1.length ≤ e) (fun (q : List Int × Bool × Int) => ((n.fields.length : Int) - q.2.2).toNat)
      ⟨Int.le_refl _, by dsimp only; omega, i + 1, hk1, Nat.le_refl _, rfl, rfl, by dsimp only; omega⟩ ?_ fun L q hq hL => ?_
    · dsimp only; omega
    · obtain ⟨a1, b1, k⟩ := q
      obtain ⟨q1, q2, e, q3, q4, q5, q6, q7⟩ := hq
      dsimp only at q1 q2 q3 q5 q6 q7 ⊢
      have he := Kids.le (fun x y h => Nat.le_of_lt h.lt) q3
      refine T.br (fun hb => ?_) fun hb => ?_
      · have hb := of_decide_eq_true hb
        refine T.get q1 hb fun y hy => ?_
        rw [drop_cons q1 hy, List.map_cons] at q3 q5 q6
        obtain ⟨c1, e1, e2, e3⟩ := q3
        have hc1 := Kids.le (fun x y h => Nat.le_of_lt h.lt) e3
        have := e2.lt
        rw [List.flatMap_cons, e1] at q5 q6
        rw [List.filterMap_append, adds_append] at q5
        rw [List.any_append, ← Bool.or_assoc] at q6
        rw [e1]
        refine T.ck (by omega) (T.cal (ih e c1 (d + 1) a1 e2 (by omega) (by omega) (by omega) q7) fun r _ ⟨r1, r2, r3⟩ => T.jp (fun b => b = (b1 || r.2)) (fun J k2 => T.br (fun h => k2 _ (by rw [h]; rfl)) fun h => k2 _ (by rw [h]; rfl)) fun b hb2 => T.ck (by omega) (hL _ ⟨by dsimp only; omega, by dsimp only; omega, c1, e3, by omega, ?_, ?_, r3⟩ (by dsimp only; omega)))
        · dsimp only; rw [r1]; exact q5
        · dsimp only; rw [hb2, r2]; exact q6
      · have hb := of_decide_eq_false hb
        rw [List.drop_eq_nil_of_le (by omega)] at q3 q5 q6
        cases q3
        have q6' : b1 = ((n.fields.map (fun f => f.ty)).flatMap (nm m.nodes h)).any (fun s => decide (fnd m.names s < 0)) := by rw [← q6]; simp
        rw [List.filterMap_append, adds_append, ← q5, List.any_append, ← q6']
        refine T.jp (fun (q : List Int × Bool) => q.1 = adds a1 (((if n.kind = 10 then [n.of] else []).flatMap (nm m.nodes h)).filterMap (idx m.names)) ∧ q.2 = (b1 || ((if n.kind = 10 then [n.of] else []).flatMap (nm m.nodes h)).any (fun s => decide (fnd m.names s < 0))) ∧ q.1.length ≤ j) (fun J k2 => T.br (fun hl10 => ?_) fun hl10 => k2 _ ?_) fun q hq => T.some hq
        · have h10 := of_decide_eq_true hl10
          rw [if_pos h10] at hk2
          obtain ⟨c1, e1, e2, e3⟩ := hk2
          cases e3
          have ih1 := ih c j (d + 1) a1 e2 (by omega) (by omega) (by omega) q7
          rw [← e1] at ih1
          refine T.ck (by omega) (T.cal ih1 fun r _ ⟨r1, r2, r3⟩ => T.jp (fun b => b = (b1 || r.2)) (fun J k3 => T.br (fun h => k3 _ (by rw [h]; rfl)) fun h => k3 _ (by rw [h]; rfl)) fun b hb2 => k2 (r.1, b) ⟨?_, ?_, r3⟩)
          · dsimp only; rw [if_pos h10, r1]; simp [adds_nil]
          · dsimp only; rw [if_pos h10, hb2, r2]; simp
        · have h10 := of_decide_eq_false hl10
          rw [if_neg h10] at hk2 ⊢
          cases hk2
          exact ⟨rfl, by simp, q7⟩
theorem uses7_all {m : GMod} (w : WF m) : ∀ h n, h ≤ n → UsesS m (r07_uses n) h := by
  intro h
  induction h with
  | zero => intro n _ i j d acc hs; exact hs.elim
  | succ h ih =>
    intro n hn
    obtain ⟨n', rfl⟩ : ∃ n', n = n' + 1 := ⟨n - 1, by omega⟩
    exact uses7_step w (ih n' (by omega))
theorem uses7_out {m n i d acc} (hi : i < 0 ∨ (m.nodes.length : Int) ≤ i) : r07_uses (n + 1) m i d acc = some (acc, false) := by
  refine T.eqs ?_
  show T _ (r07_uses_F (r07_uses n) m i d acc)
  unfold r07_uses_F
  refine T.jp (fun b => b = true) (fun J k => T.br (fun _ => k _ rfl) fun hb => k _ (decide_eq_true (by have := of_decide_eq_false hb; omega))) fun b hb => ?_
  subst hb
  refine T.jp (fun b => b = true) (fun J k => T.br (fun _ => k _ rfl) fun hb => by cases hb) fun b hb => ?_
  subst hb
  exact T.br (fun _ => T.some rfl) fun hb => by cases hb
theorem uses7_eq {m : GMod} (w : WF m) (node : Int) : r07_uses fuel m node 0 [] = some (uses m node, lost m node) := by
  by_cases hi : node < 0 ∨ (m.nodes.length : Int) ≤ node
  · obtain ⟨f', hf⟩ : ∃ f', fuel = f' + 1 := ⟨fuel - 1, by unfold fuel; omega⟩
    rw [hf, uses7_out hi]
    unfold uses lost nms
    rw [nm_out hi]; rfl
  · obtain ⟨i, rfl⟩ : ∃ i : Nat, node = (i : Int) := ⟨node.toNat, by omega⟩
    obtain ⟨h, j, h1, h2, h3⟩ := w.at (i := i) (by omega)
    obtain ⟨r, e, r1, r2, r3⟩ := uses7_all w h fuel (by unfold fuel; omega) i j 0 [] h2 h3 (Int.le_refl _) (by omega) (Nat.zero_le _)
    rw [e]
    unfold uses lost nms
    rw [nm_mono h2 h1, ← r1, ← r2]
theorem uses7U_eq {m : GMod} (w : WF m) (node : Int) : r07_Uses m node = some (uses m node) := by
  refine T.eqs ?_
  unfold r07_Uses
  exact T.eq (uses7_eq w node) (T.some rfl)
end Go.Proofs.YtdcdndflfhaejaaDoor


namespace Go.Proofs.YtdcdndflfhaejaaDoor
open Go.Sy
set_option linter.unusedVariables false

abbrev Gr := List (List Int)
def Ed (U : Gr) (i j : Int) : Prop := 0 ≤ i ∧ ∃ l, U[i.toNat]? = some l ∧ j ∈ l
inductive Reach (U : Gr) : Int → Int → Prop
  | one {i j} : Ed U i j → Reach U i j
  | tail {i j k} : Reach U i j → Ed U j k → Reach U i k
structure GOk (U : Gr) : Prop where
  len : U.length ≤ 40
  ok : ∀ l ∈ U, l.length ≤ 40 ∧ ∀ j ∈ l, 0 ≤ j ∧ j < U.length
theorem GOk.ed {U i j} (g : GOk U) (h : Ed U i j) : 0 ≤ j ∧ j < U.length := by
  obtain ⟨_, l, h1, h2⟩ := h
  exact (g.ok l (List.mem_of_getElem? h1)).2 j h2
theorem Reach.trans {U i j k} (h1 : Reach U i j) (h2 : Reach U j k) : Reach U i k := by
  induction h2 with
  | one e => exact h1.tail e
  | tail _ e ih => exact ih.tail e

/-! ### By depth -/
def On (s : List Bool) (v : Int) : Prop := 0 ≤ v ∧ s[v.toNat]? = some true
/-- How many are not marked. -/
def cf : List Bool → Nat
  | [] => 0
  | b :: r => (if b then 0 else 1) + cf r
theorem cf_set : ∀ {s : List Bool} {k : Nat}, s[k]? = some false → cf (s.set k true) + 1 = cf s := by
  intro s
  induction s with
  | nil => intro k h; simp at h
  | cons b s ih =>
    intro k h
    cases k with
    | zero => simp only [List.getElem?_cons_zero] at h; cases h; simp [cf]; omega
    | succ k => simp only [List.getElem?_cons_succ] at h; have := ih h; simp only [List.set_cons_succ, cf]; omega
theorem cf_le : ∀ s : List Bool, cf s ≤ s.length := by
  intro s
  induction s with
  | nil => exact Nat.le_refl _
  | cons b s ih => simp only [cf, List.length_cons]; split <;> omega
theorem On.set {s : List Bool} {k v : Int} (h0 : 0 ≤ k) (hk : k < s.length) : On (s.set k.toNat true) v ↔ On s v ∨ v = k := by
  unfold On
  by_cases h : v = k
  · subst h
    rw [List.getElem?_set_self (by omega)]
    exact ⟨fun _ => .inr rfl, fun _ => ⟨h0, rfl⟩⟩
  · by_cases hv : 0 ≤ v
    · rw [List.getElem?_set_ne (by omega)]
      exact ⟨.inl, fun h1 => h1.elim (fun h => h) fun e => absurd e h⟩
    · exact ⟨fun h1 => absurd h1.1 hv, fun h1 => h1.elim (fun h2 => absurd h2.1 hv) fun e => absurd e h⟩
structure Dep (U : Gr) (i : Int) (s r : List Bool) : Prop where
  len : r.length = s.length
  mono : ∀ v, On s v → On r v
  new : ∀ v, On r v → On s v ∨ (Reach U i v ∧ ∀ j, Ed U v j → On r j)
  cf : cf r ≤ cf s
def DepS (U : Gr) (f : Gr → Int → List Bool → Option (List Bool)) (n : Nat) : Prop := ∀ (i : Int) s, 0 ≤ i → i < U.length → s.length = U.length → cf s < n → T (fun r => Dep U i s r ∧ ∀ j, Ed U i j → On r j) (f U i s)
theorem dep_step {U f n} (g : GOk U) (ih : DepS U f n) : DepS U (refs_reaches_F f) (n + 1) := by
  intro i s hi0 hi hs hcf
  unfold refs_reaches_F
  refine T.get hi0 hi fun l hl => ?_
  have hgl := g.len
  obtain ⟨hll, hlr⟩ := g.ok l (List.mem_of_getElem? hl)
  have hed : ∀ j, Ed U i j ↔ j ∈ l := fun j => ⟨fun ⟨_, l', h1, h2⟩ => by rw [hl] at h1; cases h1; exact h2, fun h => ⟨hi0, l, hl, h⟩⟩
  refine T.lp (fun (q : List Bool × Int) => 0 ≤ q.2 ∧ q.2 ≤ (l.length : Int) ∧ Dep U i s q.1 ∧ ∀ j ∈ l, j ∈ l.drop q.2.toNat ∨ On q.1 j) (fun (q : List Bool × Int) => ((l.length : Int) - q.2).toNat) ⟨Int.le_refl _, by dsimp only; omega, ⟨rfl, fun _ h => h, fun _ h => .inl h, Nat.le_refl _⟩, fun j hj => .inl hj⟩ (by dsimp only; omega) fun L q ⟨h1, h2, h3, h4⟩ hL => ?_
  obtain ⟨s1, k⟩ := q
  dsimp only at h1 h2 h3 h4 ⊢
  refine T.br (fun hb => ?_) fun hb => T.some ⟨h3, fun j hj => ?_⟩
  · have hb := of_decide_eq_true hb
    refine T.jp (fun s2 => Dep U i s s2 ∧ ∀ j ∈ l, j ∈ l.drop (k + 1).toNat ∨ On s2 j) (fun J kk => T.get h1 hb fun y hy => ?_) fun s2 ⟨hs2, hj2⟩ => T.ck (by omega) (hL _ ⟨by dsimp only; omega, by dsimp only; omega, hs2, hj2⟩ (by dsimp only; omega))
    have hyl := List.mem_of_getElem? hy
    obtain ⟨hy0, hy1⟩ := hlr y hyl
    have hlen := h3.len
    rw [drop_cons h1 hy] at h4
    refine T.asd (by omega) ?_
    have hget : ∃ b, s1[y.toNat]? = some b := ⟨_, List.getElem?_eq_getElem (by omega)⟩
    obtain ⟨b, hbq⟩ := hget
    refine T.eq hbq (T.br (fun hnb => T.asd (by omega) (T.eq hbq ?_)) fun hnb => kk _ ⟨h3, fun j hj => ?_⟩)
    · have hbf : b = false := by simpa using hnb
      subst hbf
      have hcs := cf_set hbq
      have hcf3 := h3.cf
      refine T.cal (ih y (s1.set y.toNat true) hy0 hy1 (by rw [List.length_set]; omega) (by omega)) fun r _ ⟨hr, hre⟩ => T.asd (by rw [hr.len, List.length_set]) (kk _ ⟨⟨?_, fun v hv => ?_, fun v hv => ?_, ?_⟩, fun j hj => ?_⟩)
      · rw [hr.len, List.length_set]; exact hlen
      · exact hr.mono v ((On.set hy0 (by omega)).2 (.inl (h3.mono v hv)))
      · rcases hr.new v hv with h5 | ⟨h5, h6⟩
        · rcases (On.set hy0 (by omega)).1 h5 with h7 | h7
          · rcases h3.new v h7 with h8 | ⟨h8, h9⟩
            · exact .inl h8
            · exact .inr ⟨h8, fun j hj => hr.mono j ((On.set hy0 (by omega)).2 (.inl (h9 j hj)))⟩
          · subst h7
            exact .inr ⟨.one ((hed _).2 hyl), hre⟩
        · exact .inr ⟨(Reach.one ((hed _).2 hyl)).trans h5, h6⟩
      · have := hr.cf
        omega
      · rcases h4 j hj with h5 | h5
        · rcases List.mem_cons.1 h5 with h6 | h6
          · subst h6
            exact .inr (hr.mono _ ((On.set hy0 (by omega)).2 (.inr rfl)))
          · exact .inl h6
        · exact .inr (hr.mono _ ((On.set hy0 (by omega)).2 (.inl h5)))
    · have hbt : b = true := by simpa using hnb
      subst hbt
      rcases h4 j hj with h5 | h5
      · rcases List.mem_cons.1 h5 with h6 | h6
        · subst h6
          exact .inr ⟨hy0, hbq⟩
        · exact .inl h6
      · exact .inr h5
  · have hb := of_decide_eq_false hb
    rcases h4 j ((hed j).1 hj) with h5 | h5
    · rw [List.drop_eq_nil_of_le (by omega)] at h5; cases h5
    · exact h5
theorem dep_all {U} (g : GOk U) : ∀ n, DepS U (refs_reaches n) n := by
  intro n
  induction n with
  | zero => intro i s _ _ _ h; omega
  | succ n ih => exact dep_step g ih
theorem on_rep {n : Nat} {v : Int} : ¬ On (List.replicate n false) v := by
  intro ⟨_, h⟩
  have := List.mem_of_getElem? h
  rw [List.mem_replicate] at this
  cases this.2
theorem reaches_tot {U} (g : GOk U) {i : Int} (hi : 0 ≤ i) (hi1 : i < U.length) (n : Nat) (hn : n = U.length) : T (fun r => r.length = n ∧ (On r i ↔ Reach U i i)) (refs_reaches fuel U i (List.replicate n false)) := by
  have hgl := g.len
  subst hn
  have hc := cf_le (List.replicate U.length false)
  rw [List.length_replicate] at hc
  refine (dep_all g fuel i _ hi hi1 (List.length_replicate) (by unfold fuel; omega)).mono fun r ⟨h1, h2⟩ => ⟨by rw [h1.len, List.length_replicate], fun h => ?_, fun h => ?_⟩
  · rcases h1.new i h with h3 | h3
    · exact absurd h3 on_rep
    · exact h3.1
  · have key : ∀ a b, Reach U a b → a = i → On r b := by
      intro a b hab
      induction hab with
      | one e => intro ea; subst ea; exact h2 _ e
      | tail _ e ih =>
        intro ea
        rcases h1.new _ (ih ea) with h3 | h3
        · exact absurd h3 on_rep
        · exact h3.2 _ e
    exact key _ _ h rfl

/-! ### By breadth -/
theorem reach_tot {U} (g : GOk U) {i t : Int} (hi : 0 ≤ i) (hi1 : i < U.length) : T (fun r => r = true ↔ Reach U i t) (r07_reach U i t) := by
  have hgl := g.len
  unfold r07_reach
  refine T.get hi hi1 fun l hl => ?_
  obtain ⟨hll, hlr⟩ := g.ok l (List.mem_of_getElem? hl)
  have hed : ∀ j, Ed U i j ↔ j ∈ l := fun j => ⟨fun ⟨_, l', h1, h2⟩ => by rw [hl] at h1; cases h1; exact h2, fun h => ⟨hi, l, hl, h⟩⟩
  refine T.abl (by simp only [List.length_nil]; omega) ?_
  refine T.lp (fun (q : List Int × List Int) => q.1.Nodup ∧ (∀ v ∈ q.1, 0 ≤ v ∧ v < U.length) ∧ (∀ v ∈ q.2, Reach U i v) ∧ (∀ j, Ed U i j → j ∈ q.1 ∨ j ∈ q.2) ∧ (∀ v ∈ q.1, ∀ j, Ed U v j → j ∈ q.1 ∨ j ∈ q.2) ∧ t ∉ q.1 ∧ q.2.length ≤ 40 * (q.1.length + 1)) (fun (q : List Int × List Int) => (U.length - q.1.length) * 41 + q.2.length)
    ⟨List.nodup_nil, fun v h => (by cases h), fun v hv => .one ((hed v).2 (by simpa using hv)), fun j hj => .inr (by simpa using (hed j).1 hj), fun v h => (by cases h), (by simp), by simp; omega⟩ (by simp; omega) fun L q ⟨h1, h2, h3, h4, h5, h6, h7⟩ hL => ?_
  obtain ⟨s, td⟩ := q
  dsimp only at h1 h2 h3 h4 h5 h6 h7 ⊢
  have hsl : s.length ≤ U.length := by
    have := length_le_of_nodup (b := nums U.length) h1 fun x hx => mem_nums.2 (h2 x hx)
    rwa [length_nums] at this
  refine T.br (fun hb => ?_) fun hb => T.some ⟨(fun h => by cases h), fun h => ?_⟩
  · have hb := of_decide_eq_true hb
    cases td with
    | nil => simp at hb
    | cons y td =>
      refine T.get (Int.le_refl _) hb fun y' hy' => ?_
      have hy' : y = y' := by simpa using hy'
      subst hy'
      have hyr := h3 y List.mem_cons_self
      have hy01 : 0 ≤ y ∧ y < U.length := by
        cases hyr with
        | one e => exact g.ed e
        | tail _ e => exact g.ed e
      refine T.asd (by simp only [List.length_cons]; omega) (T.br (fun he => T.some ⟨fun _ => ?_, fun _ => rfl⟩) fun he => ?_)
      · rw [← of_decide_eq_true he]; exact hyr
      have he := of_decide_eq_false he
      have hdr : (y :: td).drop ((1 : Int)).toNat = td := rfl
      rw [hdr]
      rw [List.length_cons] at h7
      refine T.eq (in_int_eq s y (by omega)) (T.br (fun hn => T.abl (by simp only [List.length_singleton]; omega) ?_) fun hn => hL _ ⟨h1, h2, fun v hv => h3 v (List.mem_cons_of_mem _ hv), ?_, ?_, h6, by dsimp only; omega⟩ (by dsimp only; rw [List.length_cons]; omega))
      · have hys : y ∉ s := by simpa using hn
        refine T.get hy01.1 hy01.2 fun ly hly => ?_
        obtain ⟨hyl, hyr2⟩ := g.ok ly (List.mem_of_getElem? hly)
        have hslt : s.length < U.length := by
          have := length_le_of_nodup (a := y :: s) (b := nums U.length) (List.nodup_cons.2 ⟨hys, h1⟩) fun x hx => mem_nums.2 (by rcases List.mem_cons.1 hx with e | e; rw [e]; exact hy01; exact h2 x e)
          rw [length_nums, List.length_cons] at this
          omega
        refine T.abl (by omega) (hL _ ⟨?_, ?_, ?_, ?_, ?_, ?_, ?_⟩ ?_)
        · dsimp only
          rw [List.nodup_append]
          exact ⟨h1, by simp, fun a ha b hb => by rw [List.mem_singleton.1 hb]; exact fun e => hys (e ▸ ha)⟩
        · dsimp only
          intro v hv
          rcases List.mem_append.1 hv with e | e
          · exact h2 v e
          · rw [List.mem_singleton.1 e]; exact hy01
        · dsimp only
          intro v hv
          rcases List.mem_append.1 hv with e | e
          · exact h3 v (List.mem_cons_of_mem _ e)
          · exact hyr.tail ⟨hy01.1, ly, hly, e⟩
        · dsimp only
          intro j hj
          rw [List.mem_append, List.mem_append, List.mem_singleton]
          rcases h4 j hj with e | e
          · exact .inl (.inl e)
          · rcases List.mem_cons.1 e with e | e
            · exact .inl (.inr e)
            · exact .inr (.inl e)
        · dsimp only
          intro v hv j hj
          rw [List.mem_append, List.mem_append, List.mem_singleton]
          rcases List.mem_append.1 hv with e | e
          · rcases h5 v e j hj with e | e
            · exact .inl (.inl e)
            · rcases List.mem_cons.1 e with e | e
              · exact .inl (.inr e)
              · exact .inr (.inl e)
          · rw [List.mem_singleton.1 e] at hj
            obtain ⟨_, l', e1, e2⟩ := hj
            rw [hly] at e1; cases e1
            exact .inr (.inr e2)
        · dsimp only
          rw [List.mem_append, List.mem_singleton]
          exact fun h => h.elim h6 fun e => he e.symm
        · dsimp only
          rw [List.length_append, List.length_append, List.length_singleton]
          omega
        · dsimp only
          rw [List.length_append, List.length_append, List.length_singleton, List.length_cons]
          omega
      · have hys : y ∈ s := by simpa using hn
        intro j hj
        dsimp only
        rcases h4 j hj with e | e
        · exact .inl e
        · rcases List.mem_cons.1 e with e | e
          · rw [e]; exact .inl hys
          · exact .inr e
      · have hys : y ∈ s := by simpa using hn
        intro v hv j hj
        dsimp only at hv ⊢
        rcases h5 v hv j hj with e | e
        · exact .inl e
        · rcases List.mem_cons.1 e with e | e
          · rw [e]; exact .inl hys
          · exact .inr e
  · have hb := of_decide_eq_false hb
    cases td with
    | cons y td => simp at hb
    | nil =>
      exfalso
      have key : ∀ a b, Reach U a b → a = i → b ∈ s := by
        intro a b hab
        induction hab with
        | one e => intro ea; subst ea; simpa using h4 _ e
        | tail _ e ih => intro ea; simpa using h5 _ (ih ea) _ e
      exact h6 (key _ _ h rfl)

/-! ### One that is ready -/
theorem exists_ready {U : Gr} (g : GOk U) (hac : ∀ i, ¬ Reach U i i) (out : List Int) (hl : out.length < U.length) : ∃ i : Int, 0 ≤ i ∧ i < U.length ∧ i ∉ out ∧ ∀ j, Ed U i j → j ∈ out := by
  refine Classical.byContradiction fun hno => ?_
  have hno : ∀ i : Int, 0 ≤ i → i < U.length → i ∉ out → ∃ j, Ed U i j ∧ j ∉ out := by
    intro i h1 h2 h3
    refine Classical.byContradiction fun h4 => hno ⟨i, h1, h2, h3, fun j hj => Classical.byContradiction fun h5 => h4 ⟨j, hj, h5⟩⟩
  have hst : ∃ i : Int, 0 ≤ i ∧ i < U.length ∧ i ∉ out := by
    refine Classical.byContradiction fun h => ?_
    have := length_le_of_nodup (a := nums U.length) (b := out) (nodup_nums _) fun x hx => by
      have := mem_nums.1 hx
      exact Classical.byContradiction fun h2 => h ⟨x, this.1, this.2, h2⟩
    rw [length_nums] at this
    omega
  have path : ∀ k : Nat, ∃ (h : Int) (p : List Int), p.length = k ∧ (h :: p).Nodup ∧ (∀ x ∈ h :: p, 0 ≤ x ∧ x < U.length ∧ x ∉ out) ∧ ∀ x ∈ p, Reach U x h := by
    intro k
    induction k with
    | zero =>
      obtain ⟨i, h1, h2, h3⟩ := hst
      exact ⟨i, [], rfl, by simp, fun x hx => by rw [List.mem_singleton.1 hx]; exact ⟨h1, h2, h3⟩, fun x hx => by cases hx⟩
    | succ k ih =>
      obtain ⟨h, p, e1, e2, e3, e4⟩ := ih
      obtain ⟨j, hj1, hj2⟩ := hno h (e3 h List.mem_cons_self).1 (e3 h List.mem_cons_self).2.1 (e3 h List.mem_cons_self).2.2
      have hall : ∀ x ∈ h :: p, Reach U x j := by
        intro x hx
        rcases List.mem_cons.1 hx with e | e
        · rw [e]; exact .one hj1
        · exact (e4 x e).tail hj1
      refine ⟨j, h :: p, by rw [List.length_cons, e1], List.nodup_cons.2 ⟨fun hm => hac j (hall j hm), e2⟩, fun x hx => ?_, hall⟩
      rcases List.mem_cons.1 hx with e | e
      · rw [e]; have := g.ed hj1; exact ⟨this.1, this.2, hj2⟩
      · exact e3 x e
  obtain ⟨h, p, e1, e2, e3, _⟩ := path U.length
  have := length_le_of_nodup (b := nums U.length) e2 fun x hx => mem_nums.2 ⟨(e3 x hx).1, (e3 x hx).2.1⟩
  rw [length_nums, List.length_cons] at this
  omega
end Go.Proofs.YtdcdndflfhaejaaDoor


namespace Go.Proofs.YtdcdndflfhaejaaDoor
open Go.Sy
set_option linter.unusedVariables false

/-- The first of n numbers, from k on, of which P holds. -/
def first (P : Int → Bool) : Nat → Int → Option Int
  | 0, _ => none
  | n + 1, k => if P k then some k else first P n (k + 1)
theorem first_none {P : Int → Bool} : ∀ {n k}, first P n k = none → ∀ i, k ≤ i → i < k + n → P i = false := by
  intro n
  induction n with
  | zero => intro k _ i h1 h2; omega
  | succ n ih =>
    intro k h i h1 h2
    unfold first at h
    cases hp : P k with
    | true => rw [hp] at h; cases h
    | false =>
      rw [hp] at h
      rcases Int.lt_or_le k i with h3 | h3
      · exact ih h i (by omega) (by omega)
      · have : i = k := by omega
        rw [this]; exact hp
theorem first_some {P : Int → Bool} : ∀ {n k i}, first P n k = some i → k ≤ i ∧ i < k + n ∧ P i = true := by
  intro n
  induction n with
  | zero => intro k i h; cases h
  | succ n ih =>
    intro k i h
    unfold first at h
    cases hp : P k with
    | true => rw [hp] at h; cases h; exact ⟨Int.le_refl _, by omega, hp⟩
    | false => rw [hp] at h; have := ih h; exact ⟨by omega, by omega, this.2.2⟩
/-- How far such a loop is. -/
def At (P : Int → Bool) (n : Nat) (k : Int) : Prop := 0 ≤ k ∧ k ≤ n ∧ first P n 0 = first P ((n : Int) - k).toNat k
theorem At.zero (P : Int → Bool) (n : Nat) : At P n 0 := ⟨Int.le_refl _, by omega, by simp⟩
theorem At.next {P : Int → Bool} {n : Nat} {k : Int} (h : At P n k) (hk : k < n) (hp : P k = false) : At P n (k + 1) := by
  obtain ⟨h1, h2, h3⟩ := h
  have e : ((n : Int) - k).toNat = ((n : Int) - (k + 1)).toNat + 1 := by omega
  rw [e, first, hp] at h3
  exact ⟨by omega, by omega, h3⟩
theorem At.hit {P : Int → Bool} {n : Nat} {k : Int} (h : At P n k) (hk : k < n) (hp : P k = true) : first P n 0 = some k := by
  obtain ⟨h1, h2, h3⟩ := h
  have e : ((n : Int) - k).toNat = ((n : Int) - (k + 1)).toNat + 1 := by omega
  rw [e, first, hp] at h3
  exact h3
theorem At.miss {P : Int → Bool} {n : Nat} {k : Int} (h : At P n k) (hk : ¬ k < n) : first P n 0 = none := by
  obtain ⟨h1, h2, h3⟩ := h
  have e : ((n : Int) - k).toNat = 0 := by omega
  rw [e] at h3
  exact h3

/-! ### What is wrong first -/
/-- What uses what. -/
def gr (m : GMod) : Gr := m.types.map (uses m)
theorem gr_len {m : GMod} (w : WF m) : (gr m).length = m.names.length := by unfold gr; rw [List.length_map]; exact w.types
theorem uses_range {m : GMod} {t x : Int} (h : x ∈ uses m t) : 0 ≤ x ∧ x < m.names.length := by
  unfold uses at h
  rcases mem_adds.1 h with e | e
  · cases e
  · obtain ⟨s, _, h2⟩ := List.mem_filterMap.1 e
    exact idx_range h2
theorem gr_ok {m : GMod} (w : WF m) : GOk (gr m) := by
  refine ⟨by rw [gr_len w]; exact w.names, fun l hl => ?_⟩
  unfold gr at hl
  obtain ⟨t, _, rfl⟩ := List.mem_map.1 hl
  refine ⟨?_, fun j hj => by rw [gr_len w]; exact uses_range hj⟩
  have := length_le_of_nodup (a := uses m t) (b := nums m.names.length) (nodup_adds List.nodup_nil) fun x hx => mem_nums.2 (uses_range hx)
  rw [length_nums] at this
  have := w.names
  omega
def twice (m : GMod) (i : Int) : Bool := match m.names[i.toNat]? with | some s => decide (fnd m.names s < i) | none => false
def none_ (m : GMod) (i : Int) : Bool := match m.types[i.toNat]? with | some t => lost m t | none => false
open Classical in
noncomputable def cycle (m : GMod) (i : Int) : Bool := decide (Reach (gr m) i i)
noncomputable def wr (m : GMod) : Int × Int :=
  match first (twice m) m.names.length 0 with
  | some i => (i, 8)
  | none => match first (none_ m) m.names.length 0 with
    | some i => (i, 9)
    | none => match first (cycle m) m.names.length 0 with
      | some i => (i, 10)
      | none => (0, 0)
open Classical in
theorem cycle_of {m : GMod} {b : Bool} {i : Int} (h : b = true ↔ Reach (gr m) i i) : cycle m i = b := by
  unfold cycle
  cases b with
  | true => exact decide_eq_true (h.1 rfl)
  | false => exact decide_eq_false fun h2 => by cases h.2 h2
theorem of_eq {m : GMod} {i : Int} {t : Int} (h : 0 ≤ i) (ht : m.types[i.toNat]? = some t) : refs_of m i = some t := by
  have hlt : i.toNat < m.types.length := by
    rcases Nat.lt_or_ge i.toNat m.types.length with h1 | h1
    · exact h1
    · rw [List.getElem?_eq_none h1] at ht; cases ht
  refine T.eqs ?_
  unfold refs_of
  refine T.br (fun hb => by have := of_decide_eq_true hb; omega) fun hb => T.get h (by omega) fun y hy => T.some ?_
  rw [ht] at hy; cases hy; rfl
theorem wrong_tot {m : GMod} (w : WF m) : refs_wrong m (gr m) = some (wr m) := by
  have hn := w.names
  have ht := w.types
  have hgl := gr_len w
  refine T.eqs ?_
  unfold refs_wrong
  refine T.lp (fun (k : Int) => At (twice m) m.names.length k) (fun (k : Int) => ((m.names.length : Int) - k).toNat) (At.zero _ _) (by omega) fun L k hk hL => ?_
  have hk0 := hk.1
  refine T.br (fun hb => ?_) fun hb => ?_
  · have hb := of_decide_eq_true hb
    refine T.get hk0 hb fun s hs => T.eq (find_eq m s (by omega)) ?_
    have e : twice m k = decide (fnd m.names s < k) := by unfold twice; rw [hs]
    refine T.br (fun h => T.some ?_) fun h => T.ck (by omega) (hL _ (hk.next hb (by rw [e]; exact h)) (by omega))
    unfold wr; rw [hk.hit hb (by rw [e]; exact h)]
  have m1 := hk.miss (of_decide_eq_false hb)
  refine T.lp (fun (k : Int) => At (none_ m) m.names.length k) (fun (k : Int) => ((m.names.length : Int) - k).toNat) (At.zero _ _) (by omega) fun L k hk hL => ?_
  have hk0 := hk.1
  refine T.br (fun hb => ?_) fun hb => ?_
  · have hb := of_decide_eq_true hb
    obtain ⟨t, htt⟩ : ∃ t, m.types[k.toNat]? = some t := ⟨_, List.getElem?_eq_getElem (by omega)⟩
    refine T.eq (of_eq hk0 htt) (T.eq (lost_eq w t) ?_)
    have e : none_ m k = lost m t := by unfold none_; rw [htt]
    refine T.br (fun h => T.some ?_) fun h => T.ck (by omega) (hL _ (hk.next hb (by rw [e]; exact h)) (by omega))
    unfold wr; rw [m1, hk.hit hb (by rw [e]; exact h)]
  have m2 := hk.miss (of_decide_eq_false hb)
  refine T.lp (fun (k : Int) => At (cycle m) m.names.length k) (fun (k : Int) => ((m.names.length : Int) - k).toNat) (At.zero _ _) (by omega) fun L k hk hL => ?_
  have hk0 := hk.1
  refine T.br (fun hb => ?_) fun hb => T.some ?_
  · have hb := of_decide_eq_true hb
    have en : ((m.names.length : Int)).toNat = m.names.length := by omega
    refine T.asd (by omega) (T.cal (reaches_tot (gr_ok w) hk0 (by omega) _ (by omega)) fun r _ ⟨r1, r2⟩ => T.asd (by rw [List.length_replicate]; exact r1) (T.asd (by omega) ?_))
    obtain ⟨b, hbq⟩ : ∃ b, r[k.toNat]? = some b := ⟨_, List.getElem?_eq_getElem (by omega)⟩
    have e : cycle m k = b := cycle_of (by
      rw [← r2]
      unfold On
      rw [hbq]
      exact ⟨fun h => ⟨hk0, by rw [h]⟩, fun h => Option.some.inj h.2⟩)
    refine T.eq hbq (T.br (fun h => T.some ?_) fun h => T.ck (by omega) (hL _ (hk.next hb (by rw [e]; exact h)) (by omega)))
    unfold wr; rw [m1, m2, hk.hit hb (by rw [e]; exact h)]
  · unfold wr; rw [m1, m2, hk.miss (of_decide_eq_false hb)]
end Go.Proofs.YtdcdndflfhaejaaDoor


namespace Go.Proofs.YtdcdndflfhaejaaDoor
open Go.Sy
set_option linter.unusedVariables false

/-- Is it not there, and all that it uses there? -/
def rdy (U : Gr) (out : List Int) (i : Int) : Bool := decide (i ∉ out) && ((U[i.toNat]?).getD []).all (fun j => decide (j ∈ out))
def topo (U : Gr) : Nat → List Int → List Int
  | 0, out => out
  | k + 1, out => match first (rdy U out) U.length 0 with
    | some i => topo U k (out ++ [i])
    | none => out
noncomputable def ordr (m : GMod) : List Int × Int × Int := if (wr m).2 = 0 then (topo (gr m) m.names.length [], 0, 0) else ([], (wr m).1, (wr m).2)
theorem no_cycle {m : GMod} (w : WF m) (h : (wr m).2 = 0) : ∀ i, ¬ Reach (gr m) i i := by
  intro i hr
  have hi : 0 ≤ i ∧ i < (gr m).length := by
    cases hr with
    | one e => exact (gr_ok w).ed e
    | tail _ e => exact (gr_ok w).ed e
  rw [gr_len w] at hi
  unfold wr at h
  split at h
  · cases h
  split at h
  · cases h
  split at h
  · cases h
  · rename_i h3
    have := first_none h3 i hi.1 (by omega)
    have h4 : cycle m i = true := cycle_of (b := true) ⟨fun _ => hr, fun _ => rfl⟩
    rw [this] at h4; cases h4
theorem first_rdy {m : GMod} (w : WF m) (h : (wr m).2 = 0) {out : List Int} (hl : out.length < m.names.length) : first (rdy (gr m) out) (gr m).length 0 ≠ none := by
  intro hn
  obtain ⟨i, h1, h2, h3, h4⟩ := exists_ready (gr_ok w) (no_cycle w h) out (by rw [gr_len w]; exact hl)
  have := first_none hn i h1 (by omega)
  unfold rdy at this
  rw [decide_eq_true h3, Bool.true_and] at this
  have ha : ((gr m)[i.toNat]?.getD []).all (fun j => decide (j ∈ out)) = true := by
    rw [List.all_eq_true]
    intro j hj
    rw [List.getElem?_eq_getElem (by omega)] at hj
    exact decide_eq_true (h4 j ⟨h1, _, List.getElem?_eq_getElem (by omega), hj⟩)
  rw [this] at ha; cases ha
/-- How far the order is. -/
def Tp (m : GMod) (out : List Int) : Prop := out.length ≤ m.names.length ∧ topo (gr m) (m.names.length - out.length) out = topo (gr m) m.names.length []
theorem Tp.nil (m : GMod) : Tp m [] := ⟨Nat.zero_le _, rfl⟩
theorem Tp.next {m : GMod} {out : List Int} {i : Int} (h : Tp m out) (hl : out.length < m.names.length) (hf : first (rdy (gr m) out) (gr m).length 0 = some i) : Tp m (out ++ [i]) := by
  obtain ⟨h1, h2⟩ := h
  have e : m.names.length - out.length = (m.names.length - (out ++ [i]).length) + 1 := by rw [List.length_append, List.length_singleton]; omega
  rw [e, topo, hf] at h2
  exact ⟨by rw [List.length_append, List.length_singleton]; omega, h2⟩
theorem Tp.done {m : GMod} {out : List Int} (h : Tp m out) (hl : ¬ (out.length : Int) < m.names.length) : out = topo (gr m) m.names.length [] := by
  obtain ⟨h1, h2⟩ := h
  have e : m.names.length - out.length = 0 := by omega
  rw [e] at h2
  exact h2

/-! ### The program's order -/
theorem index_int_tot (l : List Int) (v : Int) (hl : l.length ≤ 1000000) : T (fun r => decide ((0 : Int) ≤ r) = decide (v ∈ l)) (slices_Index_Lint_int l v) := by
  unfold slices_Index_Lint_int
  refine T.lp (fun (k : Int) => 0 ≤ k ∧ k ≤ (l.length : Int) ∧ (v ∈ l ↔ v ∈ l.drop k.toNat)) (fun (k : Int) => ((l.length : Int) - k).toNat) ⟨Int.le_refl _, by omega, Iff.rfl⟩ (by omega) fun L k ⟨h1, h2, h3⟩ hL => ?_
  refine T.br (fun hb => ?_) fun hb => T.some ?_
  · have hb := of_decide_eq_true hb
    refine T.get h1 hb fun y hy => ?_
    rw [drop_cons h1 hy, List.mem_cons] at h3
    refine T.br (fun he => T.some ?_) fun he => T.ck (by omega) (hL _ ⟨by omega, by omega, ?_⟩ (by omega))
    · rw [decide_eq_true h1, decide_eq_true (h3.2 (.inl (of_decide_eq_true he)))]
    · rw [h3]
      exact ⟨fun h => h.elim (fun e => absurd e (of_decide_eq_false he)) fun h => h, .inr⟩
  · have hb := of_decide_eq_false hb
    rw [List.drop_eq_nil_of_le (by omega)] at h3
    rw [decide_eq_false (show ¬ v ∈ l from fun h => by cases h3.1 h)]
    rfl
theorem contains_int_eq (l : List Int) (v : Int) (hl : l.length ≤ 1000000) : slices_Contains_Lint_int l v = some (decide (v ∈ l)) := by
  refine T.eqs ?_
  unfold slices_Contains_Lint_int
  exact T.cal (index_int_tot l v hl) fun r _ hr => T.some hr
theorem containsF_int_eq (l out : List Int) (hl : l.length ≤ 1000000) (ho : out.length ≤ 1000000) : slices_ContainsFunc_Lint_int l out = some (!l.all (fun j => decide (j ∈ out)), out) := by
  have key : T (fun r => r.2 = out ∧ decide ((0 : Int) ≤ r.1) = !l.all (fun j => decide (j ∈ out))) (slices_IndexFunc_Lint_int l out) := by
    unfold slices_IndexFunc_Lint_int
    refine T.lp (fun (q : Int × List Int) => 0 ≤ q.1 ∧ q.1 ≤ (l.length : Int) ∧ q.2 = out ∧ l.all (fun j => decide (j ∈ out)) = (l.drop q.1.toNat).all (fun j => decide (j ∈ out))) (fun (q : Int × List Int) => ((l.length : Int) - q.1).toNat) ⟨Int.le_refl _, by dsimp only; omega, rfl, rfl⟩ (by dsimp only; omega) fun L q ⟨h1, h2, h3, h4⟩ hL => ?_
    obtain ⟨k, o⟩ := q
    dsimp only at h1 h2 h3 h4 ⊢
    subst h3
    refine T.br (fun hb => ?_) fun hb => T.some ⟨rfl, ?_⟩
    · have hb := of_decide_eq_true hb
      refine T.get h1 hb fun y hy => ?_
      rw [drop_cons h1 hy, List.all_cons] at h4
      refine T.eq (y := (!decide (y ∈ o), o)) (T.eqs (by unfold refs_Order_c1; exact T.eq (contains_int_eq _ _ (by omega)) (T.some rfl))) (T.br (fun hf => T.some ⟨rfl, ?_⟩) fun hf => T.ck (by omega) (hL _ ⟨by dsimp only; omega, by dsimp only; omega, rfl, ?_⟩ (by dsimp only; omega)))
      · have hf' : decide (y ∈ o) = false := by simpa using hf
        dsimp only
        rw [h4, hf', decide_eq_true h1]; rfl
      · have hf' : decide (y ∈ o) = true := by simpa using hf
        dsimp only
        rw [h4, hf', Bool.true_and]
    · have hb := of_decide_eq_false hb
      rw [List.drop_eq_nil_of_le (by omega)] at h4
      rw [h4]; rfl
  refine T.eqs ?_
  unfold slices_ContainsFunc_Lint_int
  exact T.cal key fun r _ hr => T.some (by rw [hr.1, hr.2])
theorem order_eq {m : GMod} (w : WF m) : refs_Order m = some (ordr m) := by
  have hn := w.names
  have ht := w.types
  have hgl := gr_len w
  have hgo := gr_ok w
  refine T.eqs ?_
  unfold refs_Order
  refine T.lp (fun (q : List (List Int) × Int) => 0 ≤ q.2 ∧ q.2 ≤ (m.names.length : Int) ∧ (q.1.length : Int) = q.2 ∧ q.1 ++ (m.types.drop q.2.toNat).map (uses m) = gr m) (fun (q : List (List Int) × Int) => ((m.names.length : Int) - q.2).toNat) ⟨Int.le_refl _, by dsimp only; omega, rfl, rfl⟩ (by dsimp only; omega) fun L q ⟨h1, h2, h3, h4⟩ hL => ?_
  obtain ⟨U, k⟩ := q
  dsimp only at h1 h2 h3 h4 ⊢
  refine T.br (fun hb => ?_) fun hb => ?_
  · have hb := of_decide_eq_true hb
    obtain ⟨t, htt⟩ : ∃ t, m.types[k.toNat]? = some t := ⟨_, List.getElem?_eq_getElem (by omega)⟩
    rw [drop_cons h1 htt, List.map_cons] at h4
    refine T.eq (of_eq h1 htt) (T.eq (uses_eq w t) (T.abl (by simp only [List.length_singleton]; omega) (T.ck (by omega) (hL _ ⟨by dsimp only; omega, by dsimp only; omega, by dsimp only; rw [List.length_append, List.length_singleton]; omega, ?_⟩ (by dsimp only; omega)))))
    dsimp only
    rw [← h4]; simp
  have hb := of_decide_eq_false hb
  rw [List.drop_eq_nil_of_le (by omega), List.map_nil, List.append_nil] at h4
  subst h4
  refine T.eq (wrong_tot w) (T.br (fun he => T.some ?_) fun he => ?_)
  · unfold ordr; rw [if_neg (by simpa using he)]
  have he : (wr m).2 = 0 := by simpa using he
  refine T.lp (fun (out : List Int) => Tp m out) (fun (out : List Int) => m.names.length - out.length) (Tp.nil m) (by omega) fun L out ho hL => ?_
  have hol := ho.1
  refine T.br (fun hb => ?_) fun hb => T.some ?_
  · have hb := of_decide_eq_true hb
    have hlt : out.length < m.names.length := by omega
    refine T.lp (fun (q : Int × List Int) => At (rdy (gr m) out) (gr m).length q.1 ∧ q.2 = out) (fun (q : Int × List Int) => ((m.names.length : Int) - q.1).toNat) ⟨At.zero _ _, rfl⟩ (by dsimp only; omega) fun L2 q ⟨hk, hq⟩ hL2 => ?_
    obtain ⟨k, o⟩ := q
    dsimp only at hk hq ⊢
    subst hq
    have hk0 := hk.1
    refine T.br (fun hb2 => ?_) fun hb2 => ?_
    · have hb2 := of_decide_eq_true hb2
      refine T.eq (contains_int_eq o k (by omega)) (T.jp (fun (q : Bool × List Int) => q.1 = rdy (gr m) o k ∧ q.2 = o) (fun J kk => T.br (fun hin => T.get hk0 (by omega) fun l hl => ?_) fun hin => kk _ ⟨?_, rfl⟩) fun q ⟨hq1, hq2⟩ => ?_)
      · have := (hgo.ok l (List.mem_of_getElem? hl)).1
        refine T.eq (containsF_int_eq l o (by omega) (by omega)) (kk _ ⟨?_, rfl⟩)
        have hin : k ∉ o := by simpa using hin
        unfold rdy
        dsimp only
        rw [hl, decide_eq_true hin]
        simp
      · have hin : k ∈ o := by simpa using hin
        unfold rdy
        dsimp only
        rw [decide_eq_false (fun h => h hin)]; rfl
      · obtain ⟨b, o2⟩ := q
        dsimp only at hq1 hq2 ⊢
        subst hq2
        refine T.br (fun hr => T.abl (by simp only [List.length_singleton]; omega) (hL _ (ho.next hlt (hk.hit (by omega) (by rw [← hq1]; exact hr))) (by rw [List.length_append, List.length_singleton]; omega))) fun hr => T.ck (by omega) (hL2 _ ⟨hk.next (by omega) (by rw [← hq1]; exact hr), rfl⟩ (by dsimp only; omega))
    · have hb2 := of_decide_eq_false hb2
      exact absurd (hk.miss (by omega)) (first_rdy w he hlt)
  · unfold ordr; rw [if_pos he, ho.done (of_decide_eq_false hb)]

/-! ### The document's order -/
theorem twice_in {l : List Str} {k : Int} {s : Str} (h0 : 0 ≤ k) (h : l[k.toNat]? = some s) : decide (s ∈ (l.take k.toNat).drop (0 : Int).toNat) = decide (fnd l s < k) := by
  have e0 : (l.take k.toNat).drop (0 : Int).toNat = l.take k.toNat := rfl
  rw [e0]
  rcases fnd_spec l s with h1 | ⟨h1, h2, h3, h4⟩
  · exact absurd (List.mem_of_getElem? h) h1.2
  · by_cases h5 : fnd l s < k
    · rw [decide_eq_true h5]
      refine decide_eq_true (List.mem_of_getElem? (i := (fnd l s).toNat) ?_)
      rw [List.getElem?_take_of_lt (by omega)]
      exact h3
    · rw [decide_eq_false h5]
      refine decide_eq_false fun hm => ?_
      obtain ⟨j, hj⟩ := List.getElem?_of_mem hm
      rw [List.getElem?_take] at hj
      split at hj
      · exact h4 j (by omega) hj
      · cases hj
theorem order7_eq {m : GMod} (w : WF m) : r07_Order m = some (ordr m) := by
  have hn := w.names
  have ht := w.types
  have hgl := gr_len w
  have hgo := gr_ok w
  refine T.eqs ?_
  unfold r07_Order
  refine T.lp (fun (k : Int) => At (twice m) m.names.length k) (fun (k : Int) => ((m.names.length : Int) - k).toNat) (At.zero _ _) (by omega) fun L k hk hL => ?_
  have hk0 := hk.1
  refine T.br (fun hb => ?_) fun hb => ?_
  · have hb := of_decide_eq_true hb
    refine T.asd (by omega) (T.get hk0 hb fun s hs => T.cal (in_string_tot _ s (by rw [List.length_drop, List.length_take]; omega)) fun b _ hbq => ?_)
    rw [twice_in hk0 hs] at hbq
    have e : twice m k = decide (fnd m.names s < k) := by unfold twice; rw [hs]
    refine T.br (fun h => T.some ?_) fun h => T.ck (by omega) (hL _ (hk.next hb (by rw [e, ← hbq]; exact h)) (by omega))
    have : wr m = (k, 8) := by unfold wr; rw [hk.hit hb (by rw [e, ← hbq]; exact h)]
    unfold ordr; rw [this]; rfl
  have m1 := hk.miss (of_decide_eq_false hb)
  refine T.lp (fun (q : List (List Int) × Int × Int) => 0 ≤ q.2.2 ∧ q.2.2 ≤ (m.names.length : Int) ∧ (q.1.length : Int) = q.2.2 ∧ q.1 ++ (m.types.drop q.2.2.toNat).map (uses m) = gr m ∧ ((q.2.1 < 0 ∧ At (none_ m) m.names.length q.2.2) ∨ (0 ≤ q.2.1 ∧ first (none_ m) m.names.length 0 = some q.2.1))) (fun (q : List (List Int) × Int × Int) => ((m.names.length : Int) - q.2.2).toNat) ⟨Int.le_refl _, by dsimp only; omega, rfl, rfl, .inl ⟨by dsimp only; omega, At.zero _ _⟩⟩ (by dsimp only; omega) fun L q ⟨h1, h2, h3, h4, h5⟩ hL => ?_
  obtain ⟨U, mi, k⟩ := q
  dsimp only at h1 h2 h3 h4 h5 ⊢
  refine T.br (fun hb => ?_) fun hb => ?_
  · have hb := of_decide_eq_true hb
    obtain ⟨t, htt⟩ : ∃ t, m.types[k.toNat]? = some t := ⟨_, List.getElem?_eq_getElem (by omega)⟩
    rw [drop_cons h1 htt, List.map_cons] at h4
    have e : none_ m k = lost m t := by unfold none_; rw [htt]
    refine T.jp (fun (q : List (List Int) × Int) => q.1 = U ++ [uses m t] ∧ ((q.2 < 0 ∧ At (none_ m) m.names.length (k + 1)) ∨ (0 ≤ q.2 ∧ first (none_ m) m.names.length 0 = some q.2))) (fun J kk => ?_) fun q ⟨hq1, hq2⟩ => T.ck (by omega) (hL _ ⟨by dsimp only; omega, by dsimp only; omega, ?_, ?_, hq2⟩ (by dsimp only; omega))
    · refine T.get h1 (by omega) fun t' ht' => ?_
      rw [htt] at ht'; cases ht'
      refine T.eq (uses7_eq w t) (T.abl (by simp only [List.length_singleton]; omega) (T.jp (fun b => b = (lost m t && decide (mi < 0))) (fun J2 k2 => T.br (fun h => k2 _ ?_) fun h => k2 _ ?_) fun b hbq => T.br (fun h => kk _ ⟨rfl, ?_⟩) fun h => kk _ ⟨rfl, ?_⟩))
      · dsimp only at h; rw [h]; rfl
      · dsimp only at h; rw [h]; rfl
      · rw [hbq, Bool.and_eq_true] at h
        obtain ⟨l1, l2⟩ := h
        have l2 := of_decide_eq_true l2
        rcases h5 with h5 | h5
        · exact .inr ⟨h1, h5.2.hit hb (by rw [e]; exact l1)⟩
        · omega
      · rw [hbq, Bool.and_eq_false_iff] at h
        rcases h5 with h5 | h5
        · refine .inl ⟨h5.1, h5.2.next hb ?_⟩
          rw [e]
          rcases h with h | h
          · exact h
          · have := of_decide_eq_false h
            exact absurd h5.1 this
        · exact .inr h5
    · dsimp only; rw [hq1, List.length_append, List.length_singleton]; omega
    · dsimp only; rw [hq1, ← h4]; simp
  have hb9 := of_decide_eq_false hb
  rw [List.drop_eq_nil_of_le (by omega), List.map_nil, List.append_nil] at h4
  subst h4
  refine T.br (fun hm => T.some ?_) fun hm => ?_
  · have hm := of_decide_eq_true hm
    have m2 := (h5.resolve_left fun h => by omega).2
    have : wr m = (mi, 9) := by unfold wr; rw [m1, m2]
    unfold ordr; rw [this]; rfl
  have hm := of_decide_eq_false hm
  have m2 := (h5.resolve_right fun h => by omega).2.miss hb9
  refine T.lp (fun (k : Int) => At (cycle m) m.names.length k) (fun (k : Int) => ((m.names.length : Int) - k).toNat) (At.zero _ _) (by omega) fun L k hk hL => ?_
  have hk0 := hk.1
  refine T.br (fun hb => ?_) fun hb => ?_
  · have hb := of_decide_eq_true hb
    refine T.cal (reach_tot hgo (t := k) hk0 (by omega)) fun b _ hbq => ?_
    have e := cycle_of hbq
    refine T.br (fun h => T.some ?_) fun h => T.ck (by omega) (hL _ (hk.next hb (by rw [e]; exact h)) (by omega))
    have : wr m = (k, 10) := by unfold wr; rw [m1, m2, hk.hit hb (by rw [e]; exact h)]
    unfold ordr; rw [this]; rfl
  have m3 := hk.miss (of_decide_eq_false hb)
  have hwr : wr m = (0, 0) := by unfold wr; rw [m1, m2, m3]
  have he : (wr m).2 = 0 := by rw [hwr]
  refine T.lp (fun (out : List Int) => Tp m out) (fun (out : List Int) => m.names.length - out.length) (Tp.nil m) (by omega) fun L out ho hL => ?_
  have hol := ho.1
  refine T.br (fun hb => ?_) fun hb => T.some ?_
  · have hb := of_decide_eq_true hb
    have hlt : out.length < m.names.length := by omega
    refine T.lp (fun (k : Int) => At (rdy (gr m) out) (gr m).length k) (fun (k : Int) => ((m.names.length : Int) - k).toNat) (At.zero _ _) (by omega) fun L2 k hk hL2 => ?_
    have hk0 := hk.1
    refine T.br (fun hb2 => ?_) fun hb2 => ?_
    · have hb2 := of_decide_eq_true hb2
      obtain ⟨l, hl⟩ : ∃ l, (gr m)[k.toNat]? = some l := ⟨_, List.getElem?_eq_getElem (by omega)⟩
      have hll := (hgo.ok l (List.mem_of_getElem? hl)).1
      have hrd : rdy (gr m) out k = (!decide (k ∈ out) && l.all (fun j => decide (j ∈ out))) := by unfold rdy; rw [hl]; simp
      refine T.eq (in_int_eq out k (by omega)) ?_
      refine T.lp (fun (q : Bool × Int) => 0 ≤ q.2 ∧ q.2 ≤ (l.length : Int) ∧ (q.1 && (l.drop q.2.toNat).all (fun j => decide (j ∈ out))) = rdy (gr m) out k) (fun (q : Bool × Int) => ((l.length : Int) - q.2).toNat) ⟨Int.le_refl _, by dsimp only; omega, hrd.symm⟩ (by dsimp only; omega) fun L3 q ⟨g1, g2, g3⟩ hL3 => ?_
      obtain ⟨b, j⟩ := q
      dsimp only at g1 g2 g3 ⊢
      refine T.get hk0 (by omega) fun l' hl' => ?_
      rw [hl] at hl'; cases hl'
      refine T.br (fun hb3 => ?_) fun hb3 => ?_
      · have hb3 := of_decide_eq_true hb3
        obtain ⟨x, hx⟩ : ∃ x, l[j.toNat]? = some x := ⟨_, List.getElem?_eq_getElem (by omega)⟩
        rw [drop_cons g1 hx, List.all_cons, ← Bool.and_assoc] at g3
        refine T.jp (fun c => c = (b && decide (x ∈ out))) (fun J kk => T.br (fun h => T.get hk0 (by omega) fun l' hl' => ?_) fun h => kk _ (by rw [h]; rfl)) fun c hc => T.ck (by omega) (hL3 _ ⟨by dsimp only; omega, by dsimp only; omega, by dsimp only; rw [hc]; exact g3⟩ (by dsimp only; omega))
        rw [hl] at hl'; cases hl'
        refine T.get g1 hb3 fun x' hx' => ?_
        rw [hx] at hx'; cases hx'
        exact T.eq (in_int_eq out x (by omega)) (kk _ (by rw [h]; rfl))
      · have hb3 := of_decide_eq_false hb3
        rw [List.drop_eq_nil_of_le (by omega), List.all_nil, Bool.and_true] at g3
        refine T.br (fun hr => T.abl (by simp only [List.length_singleton]; omega) (hL _ (ho.next hlt (hk.hit (by omega) (by rw [← g3]; exact hr))) (by rw [List.length_append, List.length_singleton]; omega))) fun hr => T.ck (by omega) (hL2 _ (hk.next (by omega) (by rw [← g3]; exact hr)) (by omega))
    · have hb2 := of_decide_eq_false hb2
      exact absurd (hk.miss (by omega)) (first_rdy w he hlt)
  · unfold ordr; rw [if_pos he, ho.done (of_decide_eq_false hb)]
end Go.Proofs.YtdcdndflfhaejaaDoor


namespace Go.Proofs.YtdcdndflfhaejaaDoor
open Go.Sy
set_option linter.unusedVariables false

/-- What a program that does nothing does not answer: by evaluation. -/
theorem awake_eq : law07_awake = some true := by kernel_rfl

theorem plain_same (l : List Int) (hl : l.length ≤ 1000000) : h_Plain_int l l = some true := by
  refine T.eqs ?_
  unfold h_Plain_int
  refine T.cal (Q := fun r => r = true) ?_ fun r _ hr => T.some hr
  unfold h_Same_int
  refine T.br (fun h => by simp at h) fun _ => ?_
  refine T.lp (fun (k : Int) => 0 ≤ k ∧ k ≤ (l.length : Int)) (fun (k : Int) => ((l.length : Int) - k).toNat) ⟨Int.le_refl _, by omega⟩ (by omega) fun L k ⟨h1, h2⟩ hL => ?_
  refine T.br (fun hb => ?_) fun _ => T.some rfl
  have hb := of_decide_eq_true hb
  refine T.get h1 hb fun y hy => T.get h1 hb fun y' hy' => ?_
  rw [hy] at hy'; cases hy'
  refine T.eq (y := true) (by unfold h_Plain_int_c1; rw [decide_eq_true rfl]) (T.br (fun h => by cases h) fun _ => T.ck (by omega) (hL _ ⟨by omega, by omega⟩ (by omega)))
theorem uses_len {m : GMod} (w : WF m) (t : Int) : (uses m t).length ≤ 40 := by
  have := length_le_of_nodup (a := uses m t) (b := nums m.names.length) (nodup_adds List.nodup_nil) fun x hx => mem_nums.2 (uses_range hx)
  rw [length_nums] at this
  have := w.names
  omega
theorem topo_len (U : Gr) : ∀ k out, (topo U k out).length ≤ out.length + k := by
  intro k
  induction k with
  | zero => intro out; exact Nat.le_refl _
  | succ k ih =>
    intro out
    unfold topo
    split
    · have := ih (out ++ [‹Int›]); rw [List.length_append, List.length_singleton] at this; omega
    · omega
theorem ordr_len {m : GMod} (w : WF m) : (ordr m).1.length ≤ 40 := by
  unfold ordr
  have := w.names
  split
  · have := topo_len (gr m) m.names.length []
    rw [List.length_nil] at this
    dsimp only; omega
  · simp
theorem tell_true (text name : Str) (node : Int) : law07_RefsTell text name node = some true := by
  refine T.eqs ?_
  unfold law07_RefsTell
  refine T.cal (parse_tot text) fun r _ w => ?_
  have hn := w.names
  refine T.jp (fun _ => True) (fun J k => T.br (fun _ => k _ trivial) fun _ => k _ trivial) fun b _ => T.br (fun _ => T.eq awake_eq (T.some rfl)) fun _ => ?_
  refine T.eq (order_eq w) (T.eq (order7_eq w) (T.eq awake_eq ?_))
  refine T.jp (fun b => b = true) (fun J k => T.br (fun _ => T.eq (find_eq _ _ (by omega)) (T.eq (find7_eq _ _ (by omega)) (k _ (decide_eq_true rfl)))) fun h => by cases h) fun b hb => ?_
  refine T.jp (fun b => b = true) (fun J k => T.br (fun _ => T.eq (uses_eq w _) (T.eq (uses7U_eq w _) (T.eq (plain_same _ (by have := uses_len w node; omega)) (k _ rfl)))) fun h => by rw [hb] at h; cases h) fun b hb => ?_
  refine T.jp (fun b => b = true) (fun J k => T.br (fun _ => T.eq (plain_same _ (by have := ordr_len w; omega)) (k _ rfl)) fun h => by rw [hb] at h; cases h) fun b hb => ?_
  refine T.jp (fun b => b = true) (fun J k => T.br (fun _ => k _ (decide_eq_true rfl)) fun h => by rw [hb] at h; cases h) fun b hb => ?_
  refine T.jp (fun b => b = true) (fun J k => T.br (fun _ => k _ (decide_eq_true rfl)) fun h => by rw [hb] at h; cases h) fun b hb => T.some hb
end Go.Proofs.YtdcdndflfhaejaaDoor


namespace Go.Proofs.YtdcdndflfhaejaaDoor
open Go.Sy
set_option linter.unusedVariables false

/-- Each comes once, behind all that it uses. -/
def Good (U : Gr) (out : List Int) : Prop := ∀ (k : Nat) (i : Int), out[k]? = some i → 0 ≤ i ∧ i < U.length ∧ i ∉ out.take k ∧ ∀ j ∈ (U[i.toNat]?).getD [], j ∈ out.take k
theorem Good.nil (U : Gr) : Good U [] := fun k i h => by simp at h
theorem Good.next {U : Gr} {out : List Int} {i : Int} (h : Good U out) (hf : first (rdy U out) U.length 0 = some i) : Good U (out ++ [i]) := by
  obtain ⟨h1, h2, h3⟩ := first_some hf
  unfold rdy at h3
  rw [Bool.and_eq_true] at h3
  intro k x hk
  rcases Nat.lt_trichotomy k out.length with e | e | e
  · rw [List.getElem?_append_left e] at hk
    rw [List.take_append_of_le_length (by omega)]
    exact h k x hk
  · subst e
    rw [List.getElem?_append_right (Nat.le_refl _)] at hk
    simp at hk
    subst hk
    rw [List.take_append_of_le_length (Nat.le_refl _), List.take_length]
    exact ⟨h1, by omega, of_decide_eq_true h3.1, fun j hj => of_decide_eq_true (List.all_eq_true.1 h3.2 j hj)⟩
  · rw [List.getElem?_append_right (by omega), List.getElem?_eq_none (by simp; omega)] at hk
    cases hk
theorem topo_good (U : Gr) : ∀ k out, Good U out → Good U (topo U k out) := by
  intro k
  induction k with
  | zero => intro out h; exact h
  | succ k ih =>
    intro out h
    unfold topo
    split
    · rename_i i hi; exact ih _ (h.next hi)
    · exact h
theorem topo_full {m : GMod} (w : WF m) (h : (wr m).2 = 0) : ∀ k out, out.length + k = m.names.length → (topo (gr m) k out).length = m.names.length := by
  intro k
  induction k with
  | zero => intro out h; exact h
  | succ k ih =>
    intro out hl
    unfold topo
    split
    · rename_i i hi; exact ih _ (by rw [List.length_append, List.length_singleton]; omega)
    · rename_i hn; exact absurd hn (first_rdy w h (by omega))
theorem order_true (text : Str) : law07_RefsOrder text = some true := by
  refine T.eqs ?_
  unfold law07_RefsOrder
  refine T.cal (parse_tot text) fun r _ w => ?_
  have hn := w.names
  have ht := w.types
  refine T.jp (fun _ => True) (fun J k => T.br (fun _ => k _ trivial) fun _ => k _ trivial) fun b _ => T.br (fun _ => T.eq awake_eq (T.some rfl)) fun _ => ?_
  refine T.eq (order_eq w) (T.eq awake_eq ?_)
  refine T.jp (fun b => b = !decide ((ordr r.1).2.2 = 0)) (fun J k => T.br (fun h => by cases h) fun _ => k _ rfl) fun b hb => T.br (fun hb1 => ?_) fun hb1 => ?_
  · rw [hb1] at hb
    have hne : ¬ (ordr r.1).2.2 = 0 := by simpa using hb
    refine T.eq awake_eq (T.jp (fun b => b = true) (fun J k => T.br (fun _ => k _ ?_) fun h => by cases h) fun b hb => T.some hb)
    unfold ordr at hne ⊢
    split
    · rename_i he; rw [if_pos he] at hne; exact absurd rfl hne
    · rfl
  · rw [hb1] at hb
    have he : (wr r.1).2 = 0 := by
      have h0 : (ordr r.1).2.2 = 0 := by simpa using hb
      unfold ordr at h0
      split at h0
      · rename_i he; exact he
      · exact h0
    have e0 : (ordr r.1).1 = topo (gr r.1) r.1.names.length [] := by unfold ordr; rw [if_pos he]
    rw [e0]
    have hg := topo_good (gr r.1) r.1.names.length [] (Good.nil _)
    have hl := topo_full w he r.1.names.length [] (by simp)
    have hgl := gr_len w
    generalize topo (gr r.1) r.1.names.length [] = l at hg hl
    refine T.lp (fun (k : Int) => 0 ≤ k ∧ k ≤ (l.length : Int)) (fun (k : Int) => ((l.length : Int) - k).toNat) ⟨Int.le_refl _, by omega⟩ (by omega) fun L k ⟨h1, h2⟩ hL => ?_
    refine T.br (fun hb => ?_) fun hb => T.some (decide_eq_true (by omega))
    have hb := of_decide_eq_true hb
    obtain ⟨i, hi⟩ : ∃ i, l[k.toNat]? = some i := ⟨_, List.getElem?_eq_getElem (by omega)⟩
    obtain ⟨g1, g2, g3, g4⟩ := hg _ _ hi
    have et : (l.take k.toNat).drop (0 : Int).toNat = l.take k.toNat := rfl
    have hgi : ∀ {β : Type} {R : β → Prop} {K : Int → Option β}, T R (K i) → T R (cal (getI l k) K) := fun h => T.get h1 hb fun y hy => by rw [hi] at hy; cases hy; exact h
    refine hgi (T.jp (fun b => b = false) (fun J kk => T.br (fun h => by have := of_decide_eq_true h; omega) fun _ => hgi (kk _ (decide_eq_false (by omega)))) fun b hb2 => ?_)
    subst hb2
    refine T.jp (fun b => b = false) (fun J kk => T.br (fun h => by cases h) fun _ => T.asd (by omega) (hgi (T.eq (in_int_eq _ _ (by rw [et, List.length_take]; omega)) (kk _ ?_)))) fun b hb2 => ?_
    · rw [et]; exact decide_eq_false g3
    subst hb2
    refine T.br (fun h => by cases h) fun _ => hgi ?_
    refine T.get g1 (by omega) fun t htt => T.eq (uses_eq w t) ?_
    have hu : (gr r.1)[i.toNat]? = some (uses r.1 t) := by unfold gr; rw [List.getElem?_map, htt]; rfl
    rw [hu] at g4
    have hul := uses_len w t
    refine T.lp (fun (j : Int) => 0 ≤ j ∧ j ≤ ((uses r.1 t).length : Int)) (fun (j : Int) => (((uses r.1 t).length : Int) - j).toNat) ⟨Int.le_refl _, by omega⟩ (by omega) fun L2 j ⟨j1, j2⟩ hL2 => ?_
    refine T.br (fun hb3 => ?_) fun _ => T.ck (by omega) (hL _ ⟨by omega, by omega⟩ (by omega))
    have hb3 := of_decide_eq_true hb3
    refine T.asd (by omega) (T.get j1 hb3 fun x hx => T.eq (in_int_eq _ _ (by rw [et, List.length_take]; omega)) (T.br (fun h => ?_) fun _ => T.ck (by omega) (hL2 _ ⟨by omega, by omega⟩ (by omega))))
    rw [et] at h
    have := g4 x (List.mem_of_getElem? hx)
    rw [decide_eq_true this] at h
    cases h
end Go.Proofs.YtdcdndflfhaejaaDoor


namespace Go.Proofs.YtdcdndflfhaejaaDoor
open Go.Sy Go.Shelf Go.Lib Go.ChangeShapes Go.WideShapes Go.ChangeAt Go.RowKit

theorem refsOrder_laid : Rows.refsOrderRow.laid = laidTwo := by kernel_rfl
theorem refsOrder_ctr (a0 : Str) : Ctr Tryd.prog 4 [isv a0] [] (pureP true) := law07_RefsOrder_w (order_true a0)

theorem refsOrder_witness (os : Os) {H : Type} (enc : TypeId × Value → H) :
    (OpenSpec.ofChange Rows.refsOrderSpec).preRow enc Tryd.prog Tryd.f4 [] false laidTwo ((laidWorld os).forCall (fun _ _ => 0) ⟨#[], #[.string ⟨#[]⟩], []⟩).memory #[.string ⟨#[]⟩] := by
  have hw : (DataW.whole enc Tryd.prog ((laidWorld os).forCall (fun _ _ => 0) ⟨#[], #[.string ⟨#[]⟩], []⟩).memory Tryd.f4.params.toList (OpenSpec.ofChange Rows.refsOrderSpec).vars false #[Value.string ⟨#[]⟩].toList 8).map (fun x => (x.1, x.2.1)) =
      some ([.lit (.string [])], []) := by kernel_rfl
  obtain ⟨⟨x1, x2, x3⟩, hx, hx1⟩ := Option.map_eq_some_iff.1 hw
  simp only [Prod.mk.injEq] at hx1
  obtain ⟨rfl, rfl⟩ := hx1
  exact OpenSpec.preRow_of_cond 8 hx (by kernel_rfl) (fun k hk => by cases hk) (by kernel_rfl) (laid_met os _)

set_option maxRecDepth 100000 in
theorem refsOrder_lifted (os : Os) (started : os.Started) (H : Type) (enc : TypeId × Value → H) (F : Stop.Interp) :
    ReturnsInHanded {} Tryd.checked os 4 .any ((OpenSpec.ofChange Rows.refsOrderSpec).preRow enc Tryd.prog Tryd.f4 [] false laidTwo) (((OpenSpec.ofChange Rows.refsOrderSpec).at F).post enc Tryd.prog Tryd.f4 false true false false) :=
  law_laid (C := Tryd.checked) (B := 4) own started (by kernel_rfl) Tryd.func4
    (witness_row_atRef (enc := enc) (C := Tryd.checked) false (laidWorld os) _ rfl (by kernel_rfl) (by kernel_rfl) (by kernel_rfl) (refsOrder_witness os enc))
    laidOut (by kernel_rfl) rfl rfl Tryd.underlying4
    (fun ds h => by
      match ds, h with
      | [_], _ => rfl)
    tabs_laid
    (fun W vs ds p hT ht hw hk => run1 (t1 := 9) hT refsOrder_ctr (Opn.str Tryd.underlying9) ht hw hk)

theorem refsOrder_said : Rows.RefsOrderSaid :=
  OpenClaim.holds_of_cond 4 Tryd.f4 rfl rfl rfl rfl rfl rfl rfl ⟨rfl, rfl, rfl, rfl, rfl⟩ rfl rfl rfl rfl rfl (by kernel_rfl) Tryd.func4 (by kernel_rfl)
    (of_decide_eq_true (by kernel_rfl)) (by unfold Func.isWrapper; rw [if_neg (of_decide_eq_false (by kernel_rfl))]; exact ⟨rfl, rfl⟩)
    (fun os started H enc _ F0 => by rw [OpenClaim.pre_eq_preRow, refsOrder_laid]; exact refsOrder_lifted os started H enc F0)

theorem refsOrder_card : Rows.RefsOrderCardSaid :=
  Claim7.holds_tied_plain_at .later [] [.data, .pinned] true (true, "55d6e321a206e61f8cae08f4049c0d987a790ef90f2b8cfc2f38ddde01af33e9") false
    refsOrder_said (fun _ h => by cases h) (by kernel_rfl) (fun _ h => by cases h) refsOrder_row_tie rfl ⟨rfl, rfl⟩ (by kernel_rfl) rfl
    (fun f fn hf hfn => by
      obtain rfl : f = 4 := Option.some.inj ((show Tryd.prog.funcNamed Rows.refsOrderRow.func = some 4 by kernel_rfl).symm.trans hf) |>.symm
      obtain rfl : fn = Tryd.f4 := (Option.some.inj (Tryd.func4.symm.trans hfn)).symm
      exact ⟨by kernel_rfl, fun j t ht => by
        have e : (Tryd.f4.params.toList.all fun t => !Tryd.prog.wantsStandIn t) = true := by kernel_rfl
        have := List.all_eq_true.1 e t (List.mem_of_getElem? (i := j) (by simpa using ht))
        exact (by simpa using this : Tryd.prog.wantsStandIn t = false)⟩)
    (by kernel_rfl)
end Go.Proofs.YtdcdndflfhaejaaDoor

