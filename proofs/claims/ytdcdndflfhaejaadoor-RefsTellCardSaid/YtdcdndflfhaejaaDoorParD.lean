/- Types, and what is in them: the parser answers, and what it lays down is a tree. No condition: general lemmas. -/
import Derived.Test.YtdcdndflfhaejaaDoorParC
namespace Go.Proofs.YtdcdndflfhaejaaDoor
open Go.Sy
set_option linter.unusedVariables false

def TypS (l : List GTok) (f : GPar → Int → Option (Int × GPar)) (D : Nat) : Prop := ∀ x m a P (d : Int), Ok l m a P x → m.nodes.length ≤ 300 → 0 ≤ d → d + D = 17 →
  T (fun r => ∃ m', Grow m m' ∧ Ok l m' a (P ∧ r.1 = (m.nodes.length : Int) ∧ Sub D m'.nodes m.nodes.length m'.nodes.length) r.2) (f x d)
def BaseS (l : List GTok) (f : GPar → GNode → Int → Option (GPar × GNode)) (D : Nat) : Prop := ∀ x n m a P (d : Int), Ok l m a P x → m.nodes.length ≤ 300 → 0 ≤ d → d + D = 16 → n.fields = [] → n.items = [] → n.kind = 0 →
  T (fun r => ∃ m', Grow m m' ∧ Ok l m' a (P ∧ Kids (Sub D m'.nodes) (kidsOf r.2) m.nodes.length m'.nodes.length) r.1) (f x n d)
def FieldsS (l : List GTok) (f : GPar → GNode → Int → Option (GPar × GNode)) (D : Nat) : Prop := ∀ x n m a P (d : Int), Ok l m a P x → m.nodes.length ≤ 300 → 0 ≤ d → d + D = 16 → n.fields = [] →
  T (fun r => (∃ m', Grow m m' ∧ Ok l m' a (P ∧ Kids (Sub D m'.nodes) (r.2.fields.map (fun f => f.ty)) m.nodes.length m'.nodes.length) r.1) ∧ r.2.kind = n.kind) (f x n d)
def FieldS (l : List GTok) (f : GPar → GNode → Int → Int → Option (GPar × GNode)) (D : Nat) : Prop := ∀ x n m a P (d g : Int) b0, Ok l m a (P ∧ Kids (Sub D m.nodes) (n.fields.map (fun f => f.ty)) b0 m.nodes.length) x → m.nodes.length ≤ 300 → 0 ≤ d → d + D = 16 → (n.fields.length : Int) ≤ x.at_ → b0 ≤ m.nodes.length →
  T (fun r => (∃ m', Grow m m' ∧ Ok l m' a (P ∧ Kids (Sub D m'.nodes) (r.2.fields.map (fun f => f.ty)) b0 m'.nodes.length ∧ x.at_ + 1 ≤ r.1.at_) r.1) ∧ r.2.kind = n.kind ∧ r.2.fields.length = n.fields.length + 1) (f x n d g)

theorem field_step {l F Ty B Fs D} (hT : TypS l Ty D) : FieldS l (r05_parser_field_F F Ty B Fs) D := by
  intro x n m a P d g b0 h hm hd0 hd hn hb
  unfold r05_parser_field_F
  have hl := h.toks.len
  have ha := h.a1
  refine T.cal (kind_tot 2 (by decide) h) fun r _ hr => T.ck (by omega) ?_
  have h1 : Ok l m (x.at_ + 1) ((P ∧ Kids (Sub D m.nodes) (n.fields.map (fun f => f.ty)) b0 m.nodes.length) ∧ a ≤ x.at_) r.2 := hr.1.to fun e h2 h3 => ⟨⟨h2, (h.ok (hr.2.1 e).1).2⟩, by have := hr.2.1 e; omega⟩
  refine T.cal (hT _ _ _ _ (d + 1) h1 hm (by omega) (by omega)) fun s _ ⟨m', hg, hs⟩ => ?_
  refine T.jp (fun q => Ok l m' (x.at_ + 1) (((P ∧ Kids (Sub D m.nodes) (n.fields.map (fun f => f.ty)) b0 m.nodes.length) ∧ a ≤ x.at_) ∧ s.1 = (m.nodes.length : Int) ∧ Sub D m'.nodes m.nodes.length m'.nodes.length) q.2 ∧ q.1.ty = s.1) (fun J k => ?_) fun q hq => ?_
  · refine T.br (fun _ => k _ ⟨hs, rfl⟩) fun _ => T.cal (is_tot _ hs) fun y1 _ e1 => T.br (fun _ => k _ ⟨e1.1, rfl⟩) fun _ => T.cal (is_tot _ e1.1) fun y2 _ e2 => T.br (fun _ => T.cal (value_tot e2.1) fun y3 _ e3 => k _ ⟨e3, rfl⟩) fun _ => k _ ⟨e2.1, rfl⟩
  · refine T.abl (by simp only [List.length_singleton]; omega) (T.some ⟨⟨m', hg, hq.1.to fun e ⟨⟨⟨p1, p2⟩, p3⟩, p4, p5⟩ p6 => ⟨⟨p1, ?_, p6⟩, ?_⟩⟩, rfl, by simp⟩)
    · dsimp only
      rw [List.map_append, List.map_singleton, hq.2, p4]
      exact (p2.monoL fun k hk1 hk2 => hg.pre k hk2).snoc p5
    · omega

/-- Fields, or their groups, one behind the other. -/
theorem fields_step {l F Ty B Fs D} (hF : FieldS l F D) : FieldsS l (r05_parser_fields_F F Ty B Fs) D := by
  intro x n m a P d h hm hd0 hd hn
  unfold r05_parser_fields_F
  have hl := h.toks.len
  have ha0 := h.a0
  have ha1 := h.a1
  have hk0 : Kids (Sub D m.nodes) (n.fields.map (fun f => f.ty)) m.nodes.length m.nodes.length := by rw [hn]; rfl
  refine T.cal (is_tot _ h) fun r _ hr => T.br (fun _ => T.some ⟨⟨m, Grow.refl hm, hr.1.to fun e p1 p2 => ⟨⟨p1, hk0⟩, p2⟩⟩, rfl⟩) fun hb => ?_
  have hrx := hr.2.2.2 hb
  -- what holds between
  refine T.jp (fun (q : GPar × GNode) => (∃ m', Grow m m' ∧ Ok l m' a (P ∧ Kids (Sub D m'.nodes) (q.2.fields.map (fun f => f.ty)) m.nodes.length m'.nodes.length) q.1) ∧ q.2.kind = n.kind) (fun J k => ?_) fun q ⟨⟨m', hg, hq⟩, hqk⟩ => ?_
  · refine T.lp (fun (q : Int × GPar × GNode) => ((∃ m', Grow m m' ∧ Ok l m' a (P ∧ Kids (Sub D m'.nodes) (q.2.2.fields.map (fun f => f.ty)) m.nodes.length m'.nodes.length) q.2.1) ∧ q.2.2.kind = n.kind) ∧ 0 ≤ q.1 ∧ q.1 ≤ q.2.1.at_ ∧ (q.2.2.fields.length : Int) ≤ q.2.1.at_) (fun (q : Int × GPar × GNode) => ((l.length : Int) - q.2.1.at_).toNat) ⟨⟨⟨m, Grow.refl hm, hr.1.to fun e p1 p2 => ⟨⟨p1, hk0⟩, p2⟩⟩, rfl⟩, Int.le_refl _, by dsimp only; rw [hrx]; exact ha0, by dsimp only; rw [hrx, hn]; exact ha0⟩ (by dsimp only; rw [hrx]; omega) fun L q hq hL => ?_
    obtain ⟨g, y, n1⟩ := q
    obtain ⟨⟨⟨m1, hg1, h1⟩, hk1⟩, h2, h3, h4⟩ := hq
    dsimp only at h1 h2 h3 h4 hk1 ⊢
    have hy1 := h1.a1
    refine T.br (fun he => ?_) fun _ => k _ ⟨⟨m1, hg1, h1⟩, hk1⟩
    have he := of_decide_eq_true he
    refine T.jp (fun (q : Int × GPar × GNode) => ((∃ m', Grow m m' ∧ Ok l m' a (P ∧ Kids (Sub D m'.nodes) (q.2.2.fields.map (fun f => f.ty)) m.nodes.length m'.nodes.length) q.2.1) ∧ q.2.2.kind = n.kind) ∧ 0 ≤ q.1 ∧ (q.2.1.e = 0 → q.1 ≤ q.2.1.at_ + 1 ∧ (q.2.2.fields.length : Int) ≤ q.2.1.at_ + 1 ∧ y.at_ ≤ q.2.1.at_)) (fun J2 k2 => ?_) fun q hq => ?_
    · refine T.jp (fun (q : Bool × GPar) => Ok l m1 a (P ∧ Kids (Sub D m1.nodes) (n1.fields.map (fun f => f.ty)) m.nodes.length m1.nodes.length) q.2 ∧ q.2.at_ ≥ y.at_ ∧ (q.1 = false → q.2 = y)) (fun J3 k3 => T.br (fun _ => T.cal (is_tot _ h1) fun u _ hu => k3 _ ⟨hu.1, ?_, hu.2.2.2⟩) fun _ => k3 _ ⟨h1, Int.le_refl _, fun _ => rfl⟩) fun q3 hq3 => ?_
      · cases hu1 : u.1 with
        | true => have := hu.2.2.1 hu1; dsimp only; omega
        | false => have := hu.2.2.2 hu1; dsimp only; rw [this]; omega
      refine T.br (fun _ => k2 _ ⟨⟨⟨m1, hg1, hq3.1⟩, hk1⟩, h2, fun _ => ⟨by dsimp only; omega, by dsimp only; omega, by dsimp only; omega⟩⟩) fun b3 => ?_
      have e3 := hq3.2.2 b3
      refine T.jp (fun (q : Bool × GPar) => Ok l m1 a (P ∧ Kids (Sub D m1.nodes) (n1.fields.map (fun f => f.ty)) m.nodes.length m1.nodes.length) q.2 ∧ q.2.at_ ≥ y.at_ ∧ (q.1 = true → q.2.at_ ≥ y.at_ + 1) ∧ (q.1 = false → q.2 = y)) (fun J3 k3 => T.br (fun _ => T.cal (is_tot _ hq3.1) fun u _ hu => k3 _ ⟨hu.1, ?_, fun hu1 => ?_, fun hu1 => ?_⟩) fun _ => k3 _ ⟨hq3.1, by dsimp only; omega, (fun h => by cases h), fun _ => e3⟩) fun q4 hq4 => ?_
      · cases hu1 : u.1 with
        | true => have := hu.2.2.1 hu1; dsimp only; omega
        | false => have := hu.2.2.2 hu1; dsimp only; rw [this]; omega
      · have := hu.2.2.1 hu1; dsimp only; omega
      · have := hu.2.2.2 hu1; dsimp only; rw [this, e3]
      refine T.br (fun b4 => T.ck (by omega) ?_) fun b4 => ?_
      · have a4 := hq4.2.2.1 b4
        have a5 := hq4.1.a1
        refine T.jp (fun (q : GPar × GNode) => (∃ m', Grow m m' ∧ Ok l m' a (P ∧ Kids (Sub D m'.nodes) (q.2.fields.map (fun f => f.ty)) m.nodes.length m'.nodes.length) q.1) ∧ q.2.kind = n.kind ∧ (q.1.e = 0 → (q.2.fields.length : Int) ≤ q.1.at_ + 1 ∧ q4.2.at_ ≤ q.1.at_)) (fun J5 k5 => ?_) fun q ⟨⟨m2, hg2, hq⟩, hqk, hql⟩ => ?_
        · refine T.lp (fun (q : GPar × GNode) => (∃ m', Grow m m' ∧ Ok l m' a (P ∧ Kids (Sub D m'.nodes) (q.2.fields.map (fun f => f.ty)) m.nodes.length m'.nodes.length) q.1) ∧ q.2.kind = n.kind ∧ (q.2.fields.length : Int) ≤ q.1.at_ ∧ q4.2.at_ ≤ q.1.at_) (fun (q : GPar × GNode) => ((l.length : Int) - q.1.at_).toNat) ⟨⟨m1, hg1, hq4.1⟩, hk1, by dsimp only; omega, Int.le_refl _⟩ (by have := hq4.1.a0; dsimp only; omega) fun L6 q ⟨⟨m2, hg2, hq⟩, hqk, hql, hqa⟩ hL6 => ?_
          refine T.br (fun b6 => ?_) fun _ => k5 _ ⟨⟨m2, hg2, hq⟩, hqk, fun _ => ⟨by dsimp only; omega, hqa⟩⟩
          refine T.cal (hF _ _ _ _ _ _ _ _ hq hg2.lim hd0 hd hql hg2.le) fun s _ ⟨⟨m3, hg3, hs⟩, hsk, hsl⟩ => T.cal (is_tot _ hs) fun u _ hu => T.br (fun b7 => k5 _ ⟨⟨m3, hg2.trans hg3, hu.1.to fun e ⟨p1, p2, p3⟩ p4 => ⟨⟨p1, p2⟩, p4⟩⟩, hsk.trans hqk, fun e => ?_⟩) fun b7 => ?_
          · have b7 : u.1 = false := by simpa using b7
            have e7 := hu.2.2.2 b7
            have e8 := (hs.ok (by rw [← e7]; exact e)).1.2.2
            dsimp only
            rw [e7]
            exact ⟨by omega, by omega⟩
          · have b7 : u.1 = true := by simpa using b7
            have e7 := hu.2.2.1 b7
            have e8 := (hs.ok e7.1).1.2.2
            have e9 := hu.1.a1
            exact hL6 _ ⟨⟨m3, hg2.trans hg3, hu.1.to fun e ⟨p1, p2, p3⟩ p4 => ⟨⟨p1, p2⟩, p4⟩⟩, hsk.trans hqk, by dsimp only; omega, by dsimp only; omega⟩ (by dsimp only; omega)
        · refine T.cal (must_tot _ hq) fun w _ hw => k2 _ ⟨⟨⟨m2, hg2, hw.1⟩, hqk⟩, by dsimp only; omega, fun e => ?_⟩
          have e1 := hw.2 e
          have e2 := hql e1.1
          dsimp only
          omega
      · have e4 := hq4.2.2.2 b4
        refine T.cal (hF _ _ _ _ _ _ (0 : Int) _ hq4.1 hg1.lim hd0 hd (by rw [e4]; exact h4) hg1.le) fun s _ ⟨⟨m3, hg3, hs⟩, hsk, hsl⟩ => k2 _ ⟨⟨⟨m3, hg1.trans hg3, hs.to fun e ⟨p1, p2, p3⟩ p4 => ⟨⟨p1, p2⟩, p4⟩⟩, hsk.trans hk1⟩, h2, fun e => ?_⟩
        have e8 := (hs.ok e).1.2.2
        rw [e4] at e8
        dsimp only
        omega
    · obtain ⟨⟨⟨m2, hg2, hq1⟩, hqk⟩, hq0, hql⟩ := hq
      refine T.cal (is_tot _ hq1) fun u _ hu => T.br (fun b7 => k _ ⟨⟨m2, hg2, hu.1⟩, hqk⟩) fun b7 => ?_
      have b7 : u.1 = true := by simpa using b7
      have e7 := hu.2.2.1 b7
      have e8 := hql e7.1
      have e9 := hu.1.a1
      exact hL _ ⟨⟨⟨m2, hg2, hu.1⟩, hqk⟩, hq0, by dsimp only; omega, by dsimp only; omega⟩ (by dsimp only; omega)
  · refine T.cal (must_tot _ hq) fun w _ hw => T.br (fun _ => T.some ⟨⟨m', hg, hw.1⟩, hqk⟩) fun _ => T.some ⟨⟨m', hg, hw.1⟩, hqk⟩
end Go.Proofs.YtdcdndflfhaejaaDoor
