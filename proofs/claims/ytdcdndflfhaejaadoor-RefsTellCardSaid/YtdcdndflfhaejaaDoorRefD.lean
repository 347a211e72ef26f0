/- What a type refers to, as the document's answer tells it. No condition: general lemmas. -/
import Derived.Test.YtdcdndflfhaejaaDoorRefC
namespace Go.Proofs.YtdcdndflfhaejaaDoor
open Go.Sy
set_option linter.unusedVariables false

theorem in_int_eq (l : List Int) (x : Int) (hl : l.length ≤ 1000000) : h_In_int l x = some (decide (x ∈ l)) := by
  refine T.eqs ?_
  unfold h_In_int
  refine T.lp (fun (k : Int) => 0 ≤ k ∧ k ≤ (l.length : Int) ∧ (x ∈ l ↔ x ∈ l.drop k.toNat)) (fun (k : Int) => ((l.length : Int) - k).toNat) ⟨Int.le_refl _, by omega, Iff.rfl⟩ (by omega) fun L k ⟨h1, h2, h3⟩ hL => ?_
  refine T.br (fun hb => ?_) fun hb => T.some ?_
  · have hb := of_decide_eq_true hb
    refine T.get h1 hb fun y hy => ?_
    rw [drop_cons h1 hy, List.mem_cons] at h3
    refine T.br (fun he => T.some (decide_eq_true (h3.2 (.inl (of_decide_eq_true he).symm))).symm) fun he => T.ck (by omega) (hL _ ⟨by omega, by omega, ?_⟩ (by omega))
    rw [h3]
    exact ⟨fun h => h.elim (fun e => absurd e.symm (of_decide_eq_false he)) fun h => h, .inr⟩
  · have hb := of_decide_eq_false hb
    rw [List.drop_eq_nil_of_le (by omega)] at h3
    exact (decide_eq_false (fun h => by cases h3.1 h)).symm

def UsesS (m : GMod) (f : GMod → Int → Int → List Int → Option (List Int × Bool)) (h : Nat) : Prop := ∀ i j (d : Int) acc, Sub h m.nodes i j → j ≤ m.nodes.length → 0 ≤ d → d + h ≤ 17 → acc.length ≤ i →
  T (fun r => r.1 = adds acc ((nm m.nodes h i).filterMap (idx m.names)) ∧ r.2 = (nm m.nodes h i).any (fun s => decide (fnd m.names s < 0)) ∧ r.1.length ≤ j) (f m i d acc)
theorem uses7_step {m f h} (w : WF m) (ih : UsesS m f h) : UsesS m (r07_uses_F f) (h + 1) := by
  intro i j d acc hs hj hd0 hd hacc
  have hl := w.nodes
  have hnl := w.names
  have hij := hs.lt
  obtain ⟨n, hn, hk⟩ := hs
  unfold r07_uses_F
  have hi : i < m.nodes.length := by omega
  have htn : ((i : Int)).toNat = i := by omega
  refine T.jp (fun b => b = false) (fun J k => T.br (fun hb => by have := of_decide_eq_true hb; omega) fun _ => k _ (decide_eq_false (by omega))) fun b hb => ?_
  subst hb
  refine T.jp (fun b => b = false) (fun J k => T.br (fun hb => by cases hb) fun _ => k _ (decide_eq_false (by omega))) fun b hb => ?_
  subst hb
  refine T.br (fun hb => by cases hb) fun _ => ?_
  refine T.get (by omega) (by omega) fun n' hn' => ?_
  rw [htn, hn] at hn'
  cases hn'
  rw [nm_node hn]
  refine T.br (fun hr => ?_) fun hr => ?_
  · have hr := of_decide_eq_true hr
    rw [if_pos hr]
    refine T.eq (find7_eq _ _ (by omega)) (T.br (fun hf => T.some ⟨?_, ?_, by dsimp only; omega⟩) fun hf => T.eq (in_int_eq _ _ (by omega)) (T.jp (fun l => l = add acc (fnd m.names n.name)) (fun J k => T.br (fun hin => T.abl (by simp only [List.length_singleton]; omega) (k _ ?_)) fun hin => k _ ?_) fun l hlq => T.some ⟨?_, ?_, ?_⟩))
    · have hf := of_decide_eq_true hf
      have : idx m.names n.name = none := by unfold idx; rw [if_pos hf]
      rw [List.filterMap_cons_none this]; rfl
    · rw [List.any_cons, hf]; rfl
    · unfold add; rw [if_neg (by simpa using hin)]
    · unfold add; rw [if_pos (by simpa using hin)]
    · have hf := of_decide_eq_false hf
      have : idx m.names n.name = some (fnd m.names n.name) := by unfold idx; rw [if_neg hf]
      rw [List.filterMap_cons_some this, hlq]; rfl
    · rw [List.any_cons, hf]; rfl
    · have := length_add acc (fnd m.names n.name)
      dsimp only
      rw [hlq]; omega
  · have hr := of_decide_eq_false hr
    rw [if_neg hr]
    unfold kidsOf at hk ⊢
    rw [if_neg hr] at hk ⊢
    obtain ⟨c, hk1, hk2⟩ := Kids.append hk
    rw [List.flatMap_append]
    have hc := Kids.le (fun x y h => Nat.le_of_lt h.lt) hk2
    have hfl := hk1.length
    rw [List.length_map] at hfl
    refine T.lp (fun (q : List Int × Bool × Int) => 0 ≤ q.2.2 ∧ q.2.2 ≤ (n.fields.length : Int) ∧ ∃ e, Kids (Sub h m.nodes) ((n.fields.drop q.2.2.toNat).map (fun f => f.ty)) e c ∧ i + 1 ≤ e ∧ adds q.1 ((((n.fields.drop q.2.2.toNat).map (fun f => f.ty)).flatMap (nm m.nodes h)).filterMap (idx m.names)) = adds acc (((n.fields.map (fun f => f.ty)).flatMap (nm m.nodes h)).filterMap (idx m.names)) ∧ (q.2.1 || (((n.fields.drop q.2.2.toNat).map (fun f => f.ty)).flatMap (nm m.nodes h)).any (fun s => decide (fnd m.names s < 0))) = ((n.fields.map (fun f => f.ty)).flatMap (nm m.nodes h)).any (fun s => decide (fnd m.names s < 0)) ∧ q.1.length ≤ e) (fun (q : List Int × Bool × Int) => ((n.fields.length : Int) - q.2.2).toNat)
      ⟨Int.le_refl _, by dsimp only; omega, i + 1, hk1, Nat.le_refl _, rfl, rfl, by dsimp only; omega⟩ ?_ fun L q hq hL => ?_
    · dsimp only; omega
    · obtain ⟨a1, b1, k⟩ := q
      obtain ⟨q1, q2, e, q3, q4, q5, q6, q7⟩ := hq
      dsimp only at q1 q2 q3 q5 q6 q7 ⊢
      have he := Kids.le (fun x y h => Nat.le_of_lt h.lt) q3
      refine T.br (fun hb => ?_) fun hb => ?_
      · have hb := of_decide_eq_true hb
        refine T.get q1 hb fun y hy => ?_
        rw [drop_cons q1 hy, List.map_cons] at q3 q5 q6
        obtain ⟨c1, e1, e2, e3⟩ := q3
        have hc1 := Kids.le (fun x y h => Nat.le_of_lt h.lt) e3
        have := e2.lt
        rw [List.flatMap_cons, e1] at q5 q6
        rw [List.filterMap_append, adds_append] at q5
        rw [List.any_append, ← Bool.or_assoc] at q6
        rw [e1]
        refine T.ck (by omega) (T.cal (ih e c1 (d + 1) a1 e2 (by omega) (by omega) (by omega) q7) fun r _ ⟨r1, r2, r3⟩ => T.jp (fun b => b = (b1 || r.2)) (fun J k2 => T.br (fun h => k2 _ (by rw [h]; rfl)) fun h => k2 _ (by rw [h]; rfl)) fun b hb2 => T.ck (by omega) (hL _ ⟨by dsimp only; omega, by dsimp only; omega, c1, e3, by omega, ?_, ?_, r3⟩ (by dsimp only; omega)))
        · dsimp only; rw [r1]; exact q5
        · dsimp only; rw [hb2, r2]; exact q6
      · have hb := of_decide_eq_false hb
        rw [List.drop_eq_nil_of_le (by omega)] at q3 q5 q6
        cases q3
        have q6' : b1 = ((n.fields.map (fun f => f.ty)).flatMap (nm m.nodes h)).any (fun s => decide (fnd m.names s < 0)) := by rw [← q6]; simp
        rw [List.filterMap_append, adds_append, ← q5, List.any_append, ← q6']
        refine T.jp (fun (q : List Int × Bool) => q.1 = adds a1 (((if n.kind = 10 then [n.of] else []).flatMap (nm m.nodes h)).filterMap (idx m.names)) ∧ q.2 = (b1 || ((if n.kind = 10 then [n.of] else []).flatMap (nm m.nodes h)).any (fun s => decide (fnd m.names s < 0))) ∧ q.1.length ≤ j) (fun J k2 => T.br (fun hl10 => ?_) fun hl10 => k2 _ ?_) fun q hq => T.some hq
        · have h10 := of_decide_eq_true hl10
          rw [if_pos h10] at hk2
          obtain ⟨c1, e1, e2, e3⟩ := hk2
          cases e3
          have ih1 := ih c j (d + 1) a1 e2 (by omega) (by omega) (by omega) q7
          rw [← e1] at ih1
          refine T.ck (by omega) (T.cal ih1 fun r _ ⟨r1, r2, r3⟩ => T.jp (fun b => b = (b1 || r.2)) (fun J k3 => T.br (fun h => k3 _ (by rw [h]; rfl)) fun h => k3 _ (by rw [h]; rfl)) fun b hb2 => k2 (r.1, b) ⟨?_, ?_, r3⟩)
          · dsimp only; rw [if_pos h10, r1]; simp [adds_nil]
          · dsimp only; rw [if_pos h10, hb2, r2]; simp
        · have h10 := of_decide_eq_false hl10
          rw [if_neg h10] at hk2 ⊢
          cases hk2
          exact ⟨rfl, by simp, q7⟩
theorem uses7_all {m : GMod} (w : WF m) : ∀ h n, h ≤ n → UsesS m (r07_uses n) h := by
  intro h
  induction h with
  | zero => intro n _ i j d acc hs; exact hs.elim
  | succ h ih =>
    intro n hn
    obtain ⟨n', rfl⟩ : ∃ n', n = n' + 1 := ⟨n - 1, by omega⟩
    exact uses7_step w (ih n' (by omega))
theorem uses7_out {m n i d acc} (hi : i < 0 ∨ (m.nodes.length : Int) ≤ i) : r07_uses (n + 1) m i d acc = some (acc, false) := by
  refine T.eqs ?_
  show T _ (r07_uses_F (r07_uses n) m i d acc)
  unfold r07_uses_F
  refine T.jp (fun b => b = true) (fun J k => T.br (fun _ => k _ rfl) fun hb => k _ (decide_eq_true (by have := of_decide_eq_false hb; omega))) fun b hb => ?_
  subst hb
  refine T.jp (fun b => b = true) (fun J k => T.br (fun _ => k _ rfl) fun hb => by cases hb) fun b hb => ?_
  subst hb
  exact T.br (fun _ => T.some rfl) fun hb => by cases hb
theorem uses7_eq {m : GMod} (w : WF m) (node : Int) : r07_uses fuel m node 0 [] = some (uses m node, lost m node) := by
  by_cases hi : node < 0 ∨ (m.nodes.length : Int) ≤ node
  · obtain ⟨f', hf⟩ : ∃ f', fuel = f' + 1 := ⟨fuel - 1, by unfold fuel; omega⟩
    rw [hf, uses7_out hi]
    unfold uses lost nms
    rw [nm_out hi]; rfl
  · obtain ⟨i, rfl⟩ : ∃ i : Nat, node = (i : Int) := ⟨node.toNat, by omega⟩
    obtain ⟨h, j, h1, h2, h3⟩ := w.at (i := i) (by omega)
    obtain ⟨r, e, r1, r2, r3⟩ := uses7_all w h fuel (by unfold fuel; omega) i j 0 [] h2 h3 (Int.le_refl _) (by omega) (Nat.zero_le _)
    rw [e]
    unfold uses lost nms
    rw [nm_mono h2 h1, ← r1, ← r2]
theorem uses7U_eq {m : GMod} (w : WF m) (node : Int) : r07_Uses m node = some (uses m node) := by
  refine T.eqs ?_
  unfold r07_Uses
  exact T.eq (uses7_eq w node) (T.some rfl)
end Go.Proofs.YtdcdndflfhaejaaDoor
