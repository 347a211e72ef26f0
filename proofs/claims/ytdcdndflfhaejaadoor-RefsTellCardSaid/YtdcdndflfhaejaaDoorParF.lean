/- Whole modules: the parser answers, and what it answers is a forest. No condition: general lemmas. -/
import Derived.Test.YtdcdndflfhaejaaDoorParE
namespace Go.Proofs.YtdcdndflfhaejaaDoor
open Go.Sy
set_option linter.unusedVariables false

/-- A module as the parser makes it. -/
structure WF (m : GMod) : Prop where
  names : m.names.length ≤ 40
  types : m.types.length = m.names.length
  nodes : m.nodes.length ≤ 300
  forest : Kids (Sub 17 m.nodes) m.types 0 m.nodes.length
theorem WF.empty : WF (GMod.mk (Str.mk []) (0 : Int) ([] : (List Str)) ([] : (List Int)) ([] : (List GNode))) := ⟨by decide, rfl, by decide, rfl⟩
/-- What holds between the types of a module. -/
structure PInv (l : List GTok) (y : GPar) : Prop where
  ok : Ok l y.m 0 (y.m.names.length ≤ 40 ∧ Kids (Sub 17 y.m.nodes) y.m.types 0 y.m.nodes.length ∧ (y.m.names.length : Int) ≤ y.at_) y
  nodes : y.m.nodes.length ≤ 300
  names : y.m.names.length ≤ 10000
  types : y.m.types.length = y.m.names.length
theorem PInv.re {l y y'} (h : PInv l y) (hm : y'.m = y.m) (hl : y'.l = y.l) (h0 : y.at_ ≤ y'.at_) (h1 : y'.at_ < (l.length : Int)) (he : y'.e = 0 → y.e = 0) : PInv l y' := by
  have := h.ok.a0
  refine ⟨⟨h.ok.toks, hl.trans h.ok.yl, rfl, by omega, h1, fun e => ?_⟩, by rw [hm]; exact h.nodes, by rw [hm]; exact h.names, by rw [hm]; exact h.types⟩
  have := h.ok.ok (he e)
  rw [hm]
  exact ⟨⟨this.1.1, this.1.2.1, by omega⟩, by omega⟩

theorem parse_tot (s : Str) : T (fun r => WF r.1) (r05_Parse s) := by
  unfold r05_Parse
  refine T.cal (tokens_tot s) fun r _ hr => T.br (fun _ => T.some WF.empty) fun he => ?_
  have he : r.2.2 = 0 := by simpa using he
  have htk := hr he
  obtain ⟨ml, le, hle, _, _⟩ := htk.last
  have hll : 0 < r.1.length := by rw [hle]; simp
  have hl8 := htk.len
  -- the head: no names yet
  have head : ∀ y : GPar, Ok r.1 y.m 0 True y → y.m.names = [] → y.m.types = [] → y.m.nodes = [] → PInv r.1 y := fun y hy h1 h2 h3 => ⟨hy.to fun e _ p => ⟨⟨by rw [h1]; decide, by rw [h2, h3]; rfl, by rw [h1]; simpa using p⟩, p⟩, by rw [h3]; decide, by rw [h1]; decide, by rw [h1, h2]; rfl⟩
  have h0 : Ok r.1 (GMod.mk (Str.mk []) (0 : Int) ([] : (List Str)) ([] : (List Int)) ([] : (List GNode))) 0 True (GPar.mk r.1 (0 : Int) (GMod.mk (Str.mk []) (0 : Int) ([] : (List Str)) ([] : (List Int)) ([] : (List GNode))) (0 : Int) (0 : Int)) := ⟨htk, rfl, rfl, Int.le_refl _, by dsimp only; omega, fun _ => ⟨trivial, Int.le_refl _⟩⟩
  let Em : GMod → Prop := fun m => m.names = [] ∧ m.types = [] ∧ m.nodes = []
  have hE : ∀ (y : GPar) m (m' : GMod), Ok r.1 m 0 True y → Ok r.1 m' 0 True (GPar.mk y.l y.at_ m' y.e y.p) := fun y m m' h => ⟨h.toks, h.yl, rfl, h.a0, h.a1, h.ok⟩
  refine T.cal (kind_tot 1 (by decide) h0) fun y1 _ h1 => T.cal (must_tot _ (hE _ _ _ h1.1)) fun y2 _ h2 => ?_
  have hm2 := h2.1.ym
  have e1 := h1.1.ym
  rw [e1] at hm2
  dsimp only at hm2
  refine T.jp (fun y => ∃ m, Em m ∧ Ok r.1 m 0 True y) (fun J k => ?_) fun y ⟨m, hem, hy⟩ => ?_
  · have hb : ∃ m, Em m ∧ Ok r.1 m 0 True y2 := ⟨y2.m, by rw [hm2]; exact ⟨rfl, rfl, rfl⟩, ⟨htk, h2.1.yl, rfl, h2.1.a0, h2.1.a1, h2.1.ok⟩⟩
    obtain ⟨m, hem, hb⟩ := hb
    refine T.cal (is_tot _ hb) fun y3 _ h3 => T.br (fun _ => T.cal (must_tot _ h3.1) fun y4 _ h4 => k _ ⟨m, hem, h4.1⟩) fun _ => ?_
    refine T.cal (is_tot _ h3.1) fun y5 _ h5 => T.br (fun _ => T.cal (must_tot _ (hE _ _ _ h5.1)) fun y4 _ h4 => k _ ⟨_, by rw [h5.1.ym]; exact hem, h4.1⟩) fun _ => ?_
    refine T.cal (is_tot _ h5.1) fun y6 _ h6 => T.br (fun _ => T.cal (must_tot _ (hE _ _ _ h6.1)) fun y4 _ h4 => k _ ⟨_, by rw [h6.1.ym]; exact hem, h4.1⟩) fun _ => k _ ⟨m, hem, h6.1⟩
  refine T.cal (must_tot _ hy) fun y3 _ h3 => T.cal (must_tot _ h3.1) fun y4 _ h4 => ?_
  have hstart : PInv r.1 y4 := by
    have e := h4.1.ym
    exact head y4 ⟨htk, h4.1.yl, rfl, h4.1.a0, h4.1.a1, h4.1.ok⟩ (by rw [e]; exact hem.1) (by rw [e]; exact hem.2.1) (by rw [e]; exact hem.2.2)
  refine T.lp (fun y => PInv r.1 y) (fun y => if y.e = 0 then ((r.1.length : Int) - y.at_).toNat + 1 else 0) hstart (by have := hstart.ok.a0; split <;> omega) fun L y hy hL => ?_
  refine T.jp (fun (q : Bool × GPar) => PInv r.1 q.2 ∧ (q.1 = true → y.e = 0 ∧ q.2.e = 0 ∧ q.2.at_ ≥ y.at_)) (fun J k => T.br (fun he => T.cal (is_tot _ hy.ok) fun u _ hu => ?_) fun _ => k _ ⟨hy, fun h => by cases h⟩) fun q ⟨hq, hqb⟩ => ?_
  · have hge : y.at_ ≤ u.2.at_ := by
      cases hu1 : u.1 with
      | true => have := hu.2.2.1 hu1; omega
      | false => rw [hu.2.2.2 hu1]; omega
    refine k _ ⟨hy.re hu.1.ym (hu.1.yl.trans hy.ok.yl.symm) hge hu.1.a1 (fun e => hu.2.1 ▸ e), fun hb => ?_⟩
    have hb : u.1 = false := by simpa using hb
    have := hu.2.2.2 hb
    dsimp only
    rw [this]
    exact ⟨of_decide_eq_true he, of_decide_eq_true he, Int.le_refl _⟩
  refine T.br (fun hb => ?_) fun hb => ?_
  · obtain ⟨b1, b2, b3⟩ := hqb hb
    refine T.cal (now_tot hq.ok) fun ⟨t, x'⟩ _ ⟨ht, hx⟩ => ?_
    dsimp only at ht hx ⊢
    subst hx
    have hq1 : Ok r.1 q.2.m (q.2.at_ + 0) (q.2.m.names.length ≤ 40 ∧ Kids (Sub 17 q.2.m.nodes) q.2.m.types 0 q.2.m.nodes.length ∧ (q.2.m.names.length : Int) ≤ q.2.at_) q.2 := hq.ok.to fun _ p1 _ => ⟨p1, by omega⟩
    refine T.cal (kind_tot 1 (by decide) hq.ok) fun u _ hu => ?_
    have hu1 : Ok r.1 q.2.m (q.2.at_ + 1) (q.2.m.names.length ≤ 40 ∧ Kids (Sub 17 q.2.m.nodes) q.2.m.types 0 q.2.m.nodes.length ∧ (q.2.m.names.length : Int) ≤ q.2.at_) u.2 := hu.1.to fun e p1 _ => ⟨p1, by have := hu.2.1 e; omega⟩
    refine T.jp (fun b => b = false → u.2.e = 0 → q.2.m.names.length < 40) (fun J k => T.br (fun he => k _ fun hb _ => ?_) fun he => k _ fun _ e => absurd e (of_decide_eq_false he)) fun b hb2 => ?_
    · have := of_decide_eq_false hb
      rw [hu.1.ym] at this
      omega
    refine T.jp (fun y5 => Ok r.1 q.2.m (q.2.at_ + 1) (q.2.m.names.length < 40 ∧ Kids (Sub 17 q.2.m.nodes) q.2.m.types 0 q.2.m.nodes.length ∧ (q.2.m.names.length : Int) ≤ q.2.at_) y5) (fun J k => T.br (fun _ => T.cal (fail_tot _ _ hu1 (by decide)) fun w _ hw => k _ (hw.1.err hw.2)) fun hb3 => k _ (hu1.to fun e p1 p2 => ⟨⟨hb2 hb3 e, p1.2⟩, p2⟩)) fun y5 h5 => ?_
    refine T.cal (must_tot _ h5) fun y6 _ h6 => T.cal (typ_tot r.1 _ _ _ _ 0 h6.1 hq.nodes (Int.le_refl _) rfl) fun v _ ⟨m', hg, hv⟩ => ?_
    have hvm := hv.ym
    have hn := hq.names
    have hn1 : m'.names.length ≤ 9000 := by
      rw [hg.names]
      have h9 := (hq.ok.ok b2).1.2.2
      have := hq.ok.a1
      omega
    have ht1 : m'.types.length = m'.names.length := by rw [hg.types, hg.names]; exact hq.types
    rw [hvm]
    refine T.abl (by simp only [List.length_singleton]; omega) (T.abl (by simp only [List.length_singleton]; omega) (hL _ ⟨⟨hv.toks, hv.yl, rfl, hv.a0, hv.a1, fun e => ?_⟩, hg.lim, ?_, ?_⟩ ?_))
    · obtain ⟨⟨⟨p1, p2, p3⟩, p4, p5⟩, p6⟩ := hv.ok e
      dsimp only
      refine ⟨⟨?_, ?_, ?_⟩, hv.a0⟩
      · rw [hg.names, List.length_append, List.length_singleton]; omega
      · rw [hg.types, p4]
        exact (p2.monoL fun k _ hk => hg.pre k hk).snoc p5
      · rw [hg.names, List.length_append, List.length_singleton]; omega
    · dsimp only; rw [List.length_append, List.length_singleton]; omega
    · dsimp only; rw [List.length_append, List.length_append, List.length_singleton, List.length_singleton]; omega
    · dsimp only
      rw [if_pos b1]
      split
      · rename_i e
        have p6 := (hv.ok e).2
        have := hv.a1
        omega
      · omega
  · refine T.jp (fun (q2 : Bool × GPar) => PInv r.1 q2.2) (fun J k => T.br (fun _ => T.cal (now_tot hq.ok) fun ⟨t, x'⟩ _ ⟨ht, hx⟩ => k _ (by dsimp only at hx ⊢; subst hx; exact hq)) fun _ => k _ hq) fun q2 hq2 => ?_
    refine T.jp (fun (y5 : GPar) => y5.e = 0 → PInv r.1 y5) (fun J k => T.br (fun _ => T.cal (now_tot hq2.ok) fun ⟨t, x'⟩ _ ⟨ht, hx⟩ => ?_) fun _ => k _ fun _ => hq2) fun y5 h5 => ?_
    · dsimp only at hx ⊢
      subst hx
      exact T.cal (fail_tot _ _ hq2.ok (by decide)) fun w _ hw => k _ fun e => absurd e hw.2
    · refine T.br (fun _ => T.some WF.empty) fun he => T.some ?_
      have he : y5.e = 0 := by simpa using he
      have h6 := h5 he
      have h7 := (h6.ok.ok he).1
      exact ⟨h7.1, h6.types, h6.nodes, h7.2.1⟩
end Go.Proofs.YtdcdndflfhaejaaDoor
