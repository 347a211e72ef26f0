/- What a type refers to: both sides. No condition: general lemmas. -/
import Derived.Test.YtdcdndflfhaejaaDoorRefA
namespace Go.Proofs.YtdcdndflfhaejaaDoor
open Go.Sy
set_option linter.unusedVariables false

/-- The names that the type of a node refers to, in order, with doubles. -/
def nm (l : List GNode) : Nat → Int → List Str
  | 0, _ => []
  | h + 1, i => match (if 0 ≤ i then l[i.toNat]? else none) with
    | none => []
    | some n => if n.kind = 11 then [n.name] else (kidsOf n).flatMap (nm l h)
theorem nm_node {l : List GNode} {h : Nat} {i : Nat} {n : GNode} (e : l[i]? = some n) : nm l (h + 1) (i : Int) = if n.kind = 11 then [n.name] else (kidsOf n).flatMap (nm l h) := by
  rw [nm, if_pos (by omega)]
  have : ((i : Int)).toNat = i := by omega
  rw [this, e]
theorem Kids.append {S : Nat → Nat → Prop} {ys : List Int} : ∀ {xs : List Int} {a b : Nat}, Kids S (xs ++ ys) a b → ∃ c, Kids S xs a c ∧ Kids S ys c b := by
  intro xs
  induction xs with
  | nil => intro a b h; exact ⟨a, rfl, h⟩
  | cons k r ih => intro a b ⟨c, h0, h1, h2⟩; obtain ⟨d, h3, h4⟩ := ih h2; exact ⟨d, ⟨c, h0, h1, h3⟩, h4⟩
theorem nm_len : ∀ {h l i j}, Sub h l i j → (nm l h (i : Int)).length ≤ j - i := by
  intro h
  induction h with
  | zero => intro l i j h; exact h.elim
  | succ h ih =>
    intro l i j hs
    have hlt := hs.lt
    obtain ⟨n, h1, h2⟩ := hs
    rw [nm_node h1]
    split
    · simp only [List.length_singleton]; omega
    · have key : ∀ (r : List Int) a b, Kids (Sub h l) r a b → (r.flatMap (nm l h)).length ≤ b - a := by
        intro r
        induction r with
        | nil => intro a b _; simp
        | cons k r ihr =>
          intro a b hk
          have hle := Kids.le (fun x y h => Nat.le_of_lt h.lt) hk
          obtain ⟨c, h3, h4, h5⟩ := hk
          have hle2 := Kids.le (fun x y h => Nat.le_of_lt h.lt) h5
          have := h4.lt
          have h6 := ih h4
          have h7 := ihr _ _ h5
          rw [List.flatMap_cons, List.length_append, h3]
          omega
      have := key _ _ _ h2
      omega
theorem Kids.length {h : Nat} {l : List GNode} : ∀ {r a b}, Kids (Sub h l) r a b → r.length ≤ b - a := by
  intro r
  induction r with
  | nil => intro a b _; exact Nat.zero_le _
  | cons k r ih =>
    intro a b ⟨c, _, h4, h5⟩
    have := h4.lt
    have := ih h5
    have := Kids.le (fun x y h => Nat.le_of_lt h.lt) h5
    rw [List.length_cons]
    omega
/-- Each node of a forest bears a tree. -/
theorem Kids.sub {h : Nat} {l : List GNode} : ∀ {r a b}, Kids (Sub h l) r a b → ∀ i, a ≤ i → i < b → ∃ h' j, h' ≤ h ∧ Sub h' l i j ∧ j ≤ b := by
  induction h with
  | zero =>
    intro r a b hk i h1 h2
    cases r with
    | nil => cases hk; omega
    | cons k r => obtain ⟨c, _, h, _⟩ := hk; exact h.elim
  | succ h ih =>
    intro r
    induction r with
    | nil => intro a b hk i h1 h2; cases hk; omega
    | cons k r ihr =>
      intro a b ⟨c, h3, h4, h5⟩ i h1 h2
      have hle := Kids.le (fun x y h => Nat.le_of_lt h.lt) h5
      rcases Nat.lt_or_ge i c with h6 | h6
      · rcases Nat.lt_or_ge a i with h7 | h7
        · obtain ⟨n, h8, h9⟩ := h4
          obtain ⟨h', j, e1, e2, e3⟩ := ih h9 i (by omega) h6
          exact ⟨h', j, by omega, e2, by omega⟩
        · have : i = a := by omega
          subst this
          exact ⟨h + 1, c, Nat.le_refl _, h4, hle⟩
      · exact ihr h5 i h6 h2

/-! ### The program's walk -/
theorem refers1_eq (n : GNode) (acc : List Str) (hl : acc.length ≤ 10000) : refs_refers_c1 n acc = some (if n.kind = 11 then add acc n.name else acc) := by
  refine T.eqs ?_
  unfold refs_refers_c1
  refine T.br (fun h => T.eq (with1_eq _ _ hl) (T.some ?_)) fun h => T.some ?_
  · rw [if_pos (of_decide_eq_true h)]
  · rw [if_neg (of_decide_eq_false h)]
/-- What the walk of a tree does. -/
def WalkS (m : GMod) (f : GMod → Int → List Bool → List Str → Option (List Bool × List Str)) (h : Nat) : Prop := ∀ i j seen acc, Sub h m.nodes i j → j ≤ m.nodes.length → seen.length = m.nodes.length → (∀ k, i ≤ k → k < j → seen[k]? = some false) → acc.length ≤ i →
  T (fun r => r.1.length = seen.length ∧ (∀ k, j ≤ k → r.1[k]? = seen[k]?) ∧ r.2 = adds acc (nm m.nodes h i) ∧ r.2.length ≤ j) (f m i seen acc)
theorem walk_step {m f h} (hl : m.nodes.length ≤ 300) (ih : WalkS m f h) : WalkS m (refs_walk_F f) (h + 1) := by
  intro i j seen acc hs hj hsl hsf hacc
  have hij := hs.lt
  obtain ⟨n, hn, hk⟩ := hs
  unfold refs_walk_F
  have hi : i < m.nodes.length := by omega
  have hsi := hsf i (Nat.le_refl _) hij
  have htn : ((i : Int)).toNat = i := by omega
  refine T.jp (fun b => b = false) (fun J k => T.br (fun hb => by have := of_decide_eq_true hb; omega) fun _ => k _ (decide_eq_false (by omega))) fun b hb => ?_
  subst hb
  refine T.jp (fun b => b = false) (fun J k => T.br (fun hb => by cases hb) fun _ => T.asd (by omega) (T.eq (y := false) (by rw [htn]; exact hsi) (k _ rfl))) fun b hb => ?_
  subst hb
  refine T.br (fun hb => by cases hb) fun _ => T.asd (by omega) (T.eq (y := false) (by rw [htn]; exact hsi) ?_)
  refine T.get (by omega) (by omega) fun n' hn' => ?_
  rw [htn, hn] at hn'
  cases hn'
  refine T.eq (refers1_eq _ _ (by omega)) ?_
  rw [nm_node hn]
  have hset : ∀ k, i + 1 ≤ k → (seen.set i true)[k]? = seen[k]? := fun k hk => List.getElem?_set_ne (by omega)
  refine T.br (fun hr => T.some ?_) fun hr => ?_
  · have hr := of_decide_eq_true hr
    rw [if_pos hr, if_pos hr]
    refine ⟨by rw [htn]; exact List.length_set, fun k hk => by rw [htn]; exact hset k (by omega), rfl, ?_⟩
    have := length_add acc n.name
    dsimp only
    omega
  · have hr := of_decide_eq_false hr
    rw [if_neg hr, if_neg hr]
    unfold kidsOf at hk ⊢
    rw [if_neg hr] at hk ⊢
    obtain ⟨c, hk1, hk2⟩ := Kids.append hk
    rw [List.flatMap_append]
    have hc := Kids.le (fun x y h => Nat.le_of_lt h.lt) hk2
    have hfl := hk1.length
    rw [List.length_map] at hfl
    refine T.lp (fun (q : List Bool × Int × List Str) => 0 ≤ q.2.1 ∧ q.2.1 ≤ (n.fields.length : Int) ∧ ∃ d, Kids (Sub h m.nodes) ((n.fields.drop q.2.1.toNat).map (fun f => f.ty)) d c ∧ i + 1 ≤ d ∧ q.1.length = seen.length ∧ (∀ k, d ≤ k → q.1[k]? = seen[k]?) ∧ adds q.2.2 (((n.fields.drop q.2.1.toNat).map (fun f => f.ty)).flatMap (nm m.nodes h)) = adds acc ((n.fields.map (fun f => f.ty)).flatMap (nm m.nodes h)) ∧ q.2.2.length ≤ d) (fun (q : List Bool × Int × List Str) => ((n.fields.length : Int) - q.2.1).toNat)
      ⟨Int.le_refl _, by dsimp only; omega, i + 1, hk1, Nat.le_refl _, by dsimp only; rw [htn]; exact List.length_set, fun k hk => by dsimp only; rw [htn]; exact hset k hk, rfl, by dsimp only; omega⟩ ?_ fun L q hq hL => ?_
    · dsimp only; omega
    · obtain ⟨s1, k, a1⟩ := q
      obtain ⟨q1, q2, d, q3, q4, q5, q6, q7, q8⟩ := hq
      dsimp only at q1 q2 q3 q5 q6 q7 q8 ⊢
      have hd := Kids.le (fun x y h => Nat.le_of_lt h.lt) q3
      refine T.br (fun hb => ?_) fun hb => ?_
      · have hb := of_decide_eq_true hb
        refine T.get q1 hb fun y hy => ?_
        have hdr : n.fields.drop k.toNat = y :: n.fields.drop (k.toNat + 1) := by
          rw [List.drop_eq_getElem_cons (by omega)]
          rw [List.getElem?_eq_getElem (by omega)] at hy
          rw [Option.some.inj hy]
        have ek : (k + 1).toNat = k.toNat + 1 := by omega
        rw [hdr, List.map_cons] at q3 q7
        obtain ⟨c1, e1, e2, e3⟩ := q3
        have hc1 := Kids.le (fun x y h => Nat.le_of_lt h.lt) e3
        have := e2.lt
        rw [e1]
        refine T.cal (ih d c1 s1 a1 e2 (by omega) (by omega) (fun k hk1 hk2 => by rw [q6 k hk1]; exact hsf k (by omega) (by omega)) q8) fun r _ ⟨r1, r2, r3, r4⟩ => T.asd r1 (T.ck (by omega) (hL _ ⟨by dsimp only; omega, by dsimp only; omega, c1, ?_, by omega, r1.trans q5, fun k hk => (r2 k hk).trans (q6 k (by omega)), ?_, r4⟩ (by dsimp only; omega)))
        · dsimp only; rw [ek]; exact e3
        · dsimp only
          rw [ek, r3, ← q7, List.flatMap_cons, adds_append, e1]
      · have hb := of_decide_eq_false hb
        rw [List.drop_eq_nil_of_le (by omega)] at q3 q7
        cases q3
        rw [adds_append, ← q7]
        refine T.br (fun hl10 => ?_) fun hl10 => T.some ?_
        · have h10 := of_decide_eq_true hl10
          rw [if_pos h10] at hk2 ⊢
          obtain ⟨c1, e1, e2, e3⟩ := hk2
          cases e3
          rw [e1]
          refine T.cal (ih c j s1 a1 e2 (by omega) (by omega) (fun k hk1 hk2 => by rw [q6 k hk1]; exact hsf k (by omega) (by omega)) q8) fun r _ ⟨r1, r2, r3, r4⟩ => T.asd r1 (T.some ⟨r1.trans q5, fun k hk => (r2 k hk).trans (q6 k (by omega)), ?_, r4⟩)
          rw [r3]
          simp [adds_nil]
        · have h10 := of_decide_eq_false hl10
          rw [if_neg h10] at hk2 ⊢
          cases hk2
          exact ⟨q5, q6, rfl, q8⟩
end Go.Proofs.YtdcdndflfhaejaaDoor
