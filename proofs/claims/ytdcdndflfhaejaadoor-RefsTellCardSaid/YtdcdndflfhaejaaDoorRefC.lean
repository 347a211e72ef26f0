/- What a type refers to: the names, and their places, on both sides. No condition: general lemmas. -/
import Derived.Test.YtdcdndflfhaejaaDoorRefB
namespace Go.Proofs.YtdcdndflfhaejaaDoor
open Go.Sy
set_option linter.unusedVariables false

theorem flatMap_eq {α β : Type} {f g : α → List β} : ∀ {l : List α}, (∀ x ∈ l, f x = g x) → l.flatMap f = l.flatMap g := by
  intro l
  induction l with
  | nil => intro _; rfl
  | cons x l ih => intro h; rw [List.flatMap_cons, List.flatMap_cons, h x List.mem_cons_self, ih fun y hy => h y (List.mem_cons_of_mem _ hy)]
theorem Kids.mem {S : Nat → Nat → Prop} {k : Int} : ∀ {r a b}, Kids S r a b → k ∈ r → ∃ (c d : Nat), k = (c : Int) ∧ S c d := by
  intro r
  induction r with
  | nil => intro a b _ h; cases h
  | cons x r ih =>
    intro a b ⟨c, h1, h2, h3⟩ h
    rcases List.mem_cons.1 h with e | e
    · exact ⟨a, c, e.trans h1, h2⟩
    · exact ih h3 e
theorem nm_mono : ∀ {h h' l i j}, Sub h l i j → h ≤ h' → nm l h' (i : Int) = nm l h (i : Int) := by
  intro h
  induction h with
  | zero => intro h' l i j hs; exact hs.elim
  | succ h ih =>
    intro h' l i j ⟨n, h1, h2⟩ hle
    obtain ⟨h'', rfl⟩ : ∃ h'', h' = h'' + 1 := ⟨h' - 1, by omega⟩
    rw [nm_node h1, nm_node h1]
    split
    · rfl
    · refine flatMap_eq fun k hk => ?_
      obtain ⟨c, d, e1, e2⟩ := h2.mem hk
      rw [e1]
      exact ih e2 (by omega)
theorem nm_out {l : List GNode} {h : Nat} {i : Int} (hi : i < 0 ∨ (l.length : Int) ≤ i) : nm l h i = [] := by
  cases h with
  | zero => rfl
  | succ h =>
    rw [nm]
    have : (if 0 ≤ i then l[i.toNat]? else none) = none := by
      split
      · rename_i h0
        exact List.getElem?_eq_none (by omega)
      · rfl
    rw [this]

theorem walk_all (m : GMod) (hl : m.nodes.length ≤ 300) : ∀ h n, h ≤ n → WalkS m (refs_walk n) h := by
  intro h
  induction h with
  | zero => intro n _ i j seen acc hs; exact hs.elim
  | succ h ih =>
    intro n hn
    obtain ⟨n', rfl⟩ : ∃ n', n = n' + 1 := ⟨n - 1, by omega⟩
    exact walk_step hl (ih n' (by omega))
theorem walk_out {m n i seen acc} (hi : i < 0 ∨ (m.nodes.length : Int) ≤ i) : refs_walk (n + 1) m i seen acc = some (seen, acc) := by
  refine T.eqs ?_
  show T _ (refs_walk_F (refs_walk n) m i seen acc)
  unfold refs_walk_F
  refine T.jp (fun b => b = true) (fun J k => T.br (fun _ => k _ rfl) fun hb => k _ (decide_eq_true (by have := of_decide_eq_false hb; omega))) fun b hb => ?_
  subst hb
  refine T.jp (fun b => b = true) (fun J k => T.br (fun _ => k _ rfl) fun hb => by cases hb) fun b hb => ?_
  subst hb
  exact T.br (fun _ => T.some rfl) fun hb => by cases hb
theorem WF.at {m : GMod} (w : WF m) {i : Nat} (hi : i < m.nodes.length) : ∃ h j, h ≤ 17 ∧ Sub h m.nodes i j ∧ j ≤ m.nodes.length := w.forest.sub i (Nat.zero_le _) hi
/-- The names that a type refers to, with doubles. -/
def nms (m : GMod) (node : Int) : List Str := nm m.nodes 17 node
theorem refers_eq {m : GMod} (w : WF m) (node : Int) : refs_refers m node = some (adds [] (nms m node)) := by
  refine T.eqs ?_
  unfold refs_refers
  have hl := w.nodes
  refine T.asd (by omega) ?_
  have hrep : (List.replicate ((m.nodes.length : Int)).toNat false).length = m.nodes.length := by rw [List.length_replicate]; omega
  by_cases hi : node < 0 ∨ (m.nodes.length : Int) ≤ node
  · obtain ⟨f', hf⟩ : ∃ f', fuel = f' + 1 := ⟨fuel - 1, by unfold fuel; omega⟩
    rw [hf]
    refine T.eq (walk_out hi) (T.asd rfl (T.some ?_))
    unfold nms
    rw [nm_out hi]; rfl
  · obtain ⟨i, rfl⟩ : ∃ i : Nat, node = (i : Int) := ⟨node.toNat, by omega⟩
    obtain ⟨h, j, h1, h2, h3⟩ := w.at (i := i) (by omega)
    refine T.cal (walk_all m hl h fuel (by unfold fuel; omega) i j _ _ h2 h3 hrep (fun k _ hk => ?_) (Nat.zero_le _)) fun r _ ⟨r1, r2, r3, r4⟩ => T.asd r1 (T.some ?_)
    · rw [List.getElem?_replicate_of_lt (by omega)]
    · rw [r3]; unfold nms; rw [nm_mono h2 h1]
theorem nms_len {m : GMod} (w : WF m) (node : Int) : (nms m node).length ≤ 300 := by
  have hl := w.nodes
  unfold nms
  by_cases hi : node < 0 ∨ (m.nodes.length : Int) ≤ node
  · rw [nm_out hi]; simp
  · obtain ⟨i, rfl⟩ : ∃ i : Nat, node = (i : Int) := ⟨node.toNat, by omega⟩
    obtain ⟨h, j, h1, h2, h3⟩ := w.at (i := i) (by omega)
    rw [nm_mono h2 h1]
    have := nm_len h2
    omega
/-- The places that a type refers to. -/
def uses (m : GMod) (node : Int) : List Int := adds [] ((nms m node).filterMap (idx m.names))
/-- Does it refer to a name that there is not? -/
def lost (m : GMod) (node : Int) : Bool := (nms m node).any (fun s => fnd m.names s < 0)
theorem drop_cons {α : Type} {l : List α} {k : Int} {y : α} (h0 : 0 ≤ k) (h : l[k.toNat]? = some y) : l.drop k.toNat = y :: l.drop (k + 1).toNat := by
  have hk : k.toNat < l.length := by
    rcases Nat.lt_or_ge k.toNat l.length with h1 | h1
    · exact h1
    · rw [List.getElem?_eq_none h1] at h; cases h
  have e : (k + 1).toNat = k.toNat + 1 := by omega
  rw [e, List.drop_eq_getElem_cons hk]
  rw [List.getElem?_eq_getElem hk] at h
  rw [Option.some.inj h]
theorem uses_eq {m : GMod} (w : WF m) (node : Int) : refs_Uses m node = some (uses m node) := by
  refine T.eqs ?_
  unfold refs_Uses
  refine T.eq (refers_eq w node) ?_
  have hn := w.names
  have hlen := length_adds (nms m node) []
  have hnl := nms_len w node
  rw [List.length_nil] at hlen
  have e0 : uses m node = ((adds [] (nms m node)).filterMap (idx m.names)) := by
    unfold uses; rw [filterMap_adds _ (idx_inj _)]; rfl
  rw [e0]
  generalize adds [] (nms m node) = l at hlen
  refine T.lp (fun (q : List Int × Int) => 0 ≤ q.2 ∧ q.2 ≤ (l.length : Int) ∧ q.1 ++ (l.drop q.2.toNat).filterMap (idx m.names) = l.filterMap (idx m.names) ∧ (q.1.length : Int) ≤ q.2) (fun (q : List Int × Int) => ((l.length : Int) - q.2).toNat) ⟨Int.le_refl _, by dsimp only; omega, rfl, by simp⟩ (by dsimp only; omega) fun L q ⟨h1, h2, h3, h4⟩ hL => ?_
  obtain ⟨o, k⟩ := q
  dsimp only at h1 h2 h3 h4 ⊢
  refine T.br (fun hb => ?_) fun hb => T.some ?_
  · have hb := of_decide_eq_true hb
    refine T.jp (fun o' => o' ++ (l.drop (k + 1).toNat).filterMap (idx m.names) = l.filterMap (idx m.names) ∧ (o'.length : Int) ≤ k + 1) (fun J h => T.get h1 hb fun y hy => ?_) fun o' ho => T.ck (by omega) (hL _ ⟨by dsimp only; omega, by dsimp only; omega, ho.1, ho.2⟩ (by dsimp only; omega))
    rw [drop_cons h1 hy] at h3
    refine T.eq (find_eq m y (by omega)) (T.br (fun hf => T.abl (by simp only [List.length_singleton]; omega) (h _ ⟨?_, by simp only [List.length_append, List.length_singleton]; omega⟩)) fun hf => h _ ⟨?_, by omega⟩)
    · have hf := of_decide_eq_true hf
      have : idx m.names y = some (fnd m.names y) := by unfold idx; rw [if_neg (by omega)]
      rw [List.filterMap_cons_some this] at h3
      rw [← h3]; simp
    · have hf := of_decide_eq_false hf
      have : idx m.names y = none := by unfold idx; rw [if_pos (by omega)]
      rw [List.filterMap_cons_none this] at h3
      exact h3
  · have hb := of_decide_eq_false hb
    rw [List.drop_eq_nil_of_le (by omega)] at h3
    simpa using h3
theorem lost_eq {m : GMod} (w : WF m) (node : Int) : refs_lost m node = some (lost m node) := by
  refine T.eqs ?_
  unfold refs_lost
  refine T.eq (refers_eq w node) ?_
  have hn := w.names
  have hlen := length_adds (nms m node) []
  have hnl := nms_len w node
  rw [List.length_nil] at hlen
  have e0 : lost m node = (adds [] (nms m node)).any (fun s => decide (fnd m.names s < 0)) := by
    unfold lost
    rw [Bool.eq_iff_iff, List.any_eq_true, List.any_eq_true]
    exact ⟨fun ⟨x, h1, h2⟩ => ⟨x, mem_adds.2 (.inr h1), h2⟩, fun ⟨x, h1, h2⟩ => ⟨x, by simpa using mem_adds.1 h1, h2⟩⟩
  rw [e0]
  generalize adds [] (nms m node) = l at hlen
  have key : T (fun r => r.2 = m ∧ decide ((0 : Int) ≤ r.1) = l.any (fun s => decide (fnd m.names s < 0))) (slices_IndexFunc_Lstring_string l m) := by
    unfold slices_IndexFunc_Lstring_string
    refine T.lp (fun (q : Int × GMod) => 0 ≤ q.1 ∧ q.1 ≤ (l.length : Int) ∧ q.2 = m ∧ l.any (fun s => decide (fnd m.names s < 0)) = (l.drop q.1.toNat).any (fun s => decide (fnd m.names s < 0))) (fun (q : Int × GMod) => ((l.length : Int) - q.1).toNat) ⟨Int.le_refl _, by dsimp only; omega, rfl, rfl⟩ (by dsimp only; omega) fun L q ⟨h1, h2, h3, h4⟩ hL => ?_
    obtain ⟨k, m1⟩ := q
    dsimp only at h1 h2 h3 h4 ⊢
    subst h3
    refine T.br (fun hb => ?_) fun hb => T.some ⟨rfl, ?_⟩
    · have hb := of_decide_eq_true hb
      refine T.get h1 hb fun y hy => ?_
      rw [drop_cons h1 hy, List.any_cons] at h4
      refine T.eq (y := (decide (fnd m1.names y < 0), m1)) (T.eqs (by unfold refs_lost_c1; exact T.eq (find_eq _ _ (by omega)) (T.some rfl))) (T.br (fun hf => T.some ⟨rfl, ?_⟩) fun hf => T.ck (by omega) (hL _ ⟨by dsimp only; omega, by dsimp only; omega, rfl, ?_⟩ (by dsimp only; omega)))
      · dsimp only at hf ⊢; rw [h4, hf]; simpa using h1
      · dsimp only at hf ⊢; rw [h4, hf]; rfl
    · have hb := of_decide_eq_false hb
      rw [List.drop_eq_nil_of_le (by omega)] at h4
      rw [h4]; rfl
  unfold slices_ContainsFunc_Lstring_string
  refine T.cal (Q := fun r => r.1 = l.any (fun s => decide (fnd m.names s < 0))) (T.cal key fun r _ hr => T.some hr.2) fun r _ hr => T.some hr
end Go.Proofs.YtdcdndflfhaejaaDoor
