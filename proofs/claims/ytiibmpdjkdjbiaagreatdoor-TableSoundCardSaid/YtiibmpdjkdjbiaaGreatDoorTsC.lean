/- TableSound: whatever its argument is, the law's model answers true. No condition. -/
import Derived.Test.YtiibmpdjkdjbiaaGreatDoorTsA
import Derived.Test.YtiibmpdjkdjbiaaGreatDoorTsB
import Derived.KernelRfl
set_option linter.unusedVariables false
set_option linter.unusedSimpArgs false

namespace Go.Proofs.YtiibmpdjkdjbiaaGreatDoor
open Go.Sy
set_option linter.unusedVariables false

theorem T.eqs {β : Type} {o : Option β} {x : β} (h : T (fun r => r = x) o) : o = some x := by
  obtain ⟨r, h1, h2⟩ := h; rw [h1, h2]
section lists
variable {α β : Type} [DecidableEq α] [DecidableEq β]
def add (l : List α) (x : α) : List α := if x ∈ l then l else l ++ [x]
def adds (l xs : List α) : List α := xs.foldl add l
theorem adds_nil (l : List α) : adds l [] = l := rfl
theorem adds_cons (l : List α) (x : α) (xs : List α) : adds l (x :: xs) = adds (add l x) xs := rfl
theorem adds_append (l xs ys : List α) : adds l (xs ++ ys) = adds (adds l xs) ys := by unfold adds; rw [List.foldl_append]
theorem mem_add {l : List α} {x y : α} : y ∈ add l x ↔ y ∈ l ∨ y = x := by
  unfold add
  split
  · rename_i h
    exact ⟨.inl, fun h2 => h2.elim (fun h => h) fun e => by rw [e]; exact h⟩
  · rw [List.mem_append, List.mem_singleton]
theorem mem_adds {xs : List α} : ∀ {l : List α} {y : α}, y ∈ adds l xs ↔ y ∈ l ∨ y ∈ xs := by
  induction xs with
  | nil => intro l y; rw [adds_nil]; simp
  | cons x xs ih => intro l y; rw [adds_cons, ih, mem_add, List.mem_cons, or_assoc]
theorem nodup_add {l : List α} {x : α} (h : l.Nodup) : (add l x).Nodup := by
  unfold add
  split
  · exact h
  · rename_i hx
    rw [List.nodup_append]
    exact ⟨h, by simp, fun a ha b hb => by rw [List.mem_singleton.1 hb]; exact fun e => hx (e ▸ ha)⟩
theorem nodup_adds {xs : List α} : ∀ {l : List α}, l.Nodup → (adds l xs).Nodup := by
  induction xs with
  | nil => intro l h; exact h
  | cons x xs ih => intro l h; rw [adds_cons]; exact ih (nodup_add h)
theorem length_add (l : List α) (x : α) : (add l x).length ≤ l.length + 1 := by
  unfold add; split
  · omega
  · rw [List.length_append, List.length_singleton]; omega
theorem length_adds (xs : List α) : ∀ l : List α, (adds l xs).length ≤ l.length + xs.length := by
  induction xs with
  | nil => intro l; exact Nat.le_refl _
  | cons x xs ih => intro l; rw [adds_cons, List.length_cons]; have := ih (add l x); have := length_add l x; omega
theorem filterMap_adds (f : α → Option β) (hf : ∀ a b c, f a = some c → f b = some c → a = b) : ∀ (xs l : List α), (adds l xs).filterMap f = adds (l.filterMap f) (xs.filterMap f) := by
  intro xs
  induction xs with
  | nil => intro l; rfl
  | cons x xs ih =>
    intro l
    rw [adds_cons, ih]
    cases hx : f x with
    | none =>
      rw [List.filterMap_cons_none hx]
      congr 1
      unfold add
      split
      · rfl
      · rw [List.filterMap_append]; simp [hx]
    | some c =>
      rw [List.filterMap_cons_some hx, adds_cons]
      congr 1
      unfold add
      have hiff : x ∈ l ↔ c ∈ l.filterMap f := by
        rw [List.mem_filterMap]
        exact ⟨fun h => ⟨x, h, hx⟩, fun ⟨a, h, e⟩ => hf _ _ _ e hx ▸ h⟩
      by_cases h : x ∈ l
      · rw [if_pos h, if_pos (hiff.1 h)]
      · rw [if_neg h, if_neg (fun h2 => h (hiff.2 h2)), List.filterMap_append]
        simp [hx]
theorem length_le_of_nodup : ∀ {a b : List α}, a.Nodup → (∀ x ∈ a, x ∈ b) → a.length ≤ b.length := by
  intro a
  induction a with
  | nil => intro b _ _; exact Nat.zero_le _
  | cons x a ih =>
    intro b hn hs
    rw [List.nodup_cons] at hn
    have hx := hs x List.mem_cons_self
    have h1 := ih (b := b.erase x) hn.2 fun y hy => (List.mem_erase_of_ne (fun e : y = x => hn.1 (e ▸ hy))).2 (hs y (List.mem_cons_of_mem _ hy))
    have h2 := List.length_erase_of_mem hx
    have h3 := List.length_pos_of_mem hx
    rw [List.length_cons]
    omega
def nums (n : Nat) : List Int := (List.range n).map (fun (k : Nat) => (k : Int))
theorem mem_nums {n : Nat} {x : Int} : x ∈ nums n ↔ 0 ≤ x ∧ x < n := by
  unfold nums
  rw [List.mem_map]
  refine ⟨fun ⟨k, hk, e⟩ => ?_, fun ⟨h1, h2⟩ => ⟨x.toNat, List.mem_range.2 (by omega), by omega⟩⟩
  have := List.mem_range.1 hk
  omega
theorem length_nums (n : Nat) : (nums n).length = n := by unfold nums; rw [List.length_map, List.length_range]
theorem nodup_nums (n : Nat) : (nums n).Nodup := by
  unfold nums
  rw [List.Nodup, List.pairwise_map]
  exact List.Pairwise.imp (fun {a b : Nat} (h : a ≠ b) (e : (a : Int) = (b : Int)) => h (by omega)) (List.nodup_range : (List.range n).Nodup)
end lists

/-! ### Places of names -/
def fndFrom : List Str → Str → Int → Int
  | [], _, _ => -1
  | y :: r, s, k => if y = s then k else fndFrom r s (k + 1)
def fnd (l : List Str) (s : Str) : Int := fndFrom l s 0
theorem fndFrom_spec : ∀ (l : List Str) (s : Str) (k : Int), 0 ≤ k → (fndFrom l s k = -1 ∧ s ∉ l) ∨ (k ≤ fndFrom l s k ∧ fndFrom l s k < k + l.length ∧ l[(fndFrom l s k - k).toNat]? = some s ∧ ∀ j : Nat, j < (fndFrom l s k - k).toNat → l[j]? ≠ some s) := by
  intro l
  induction l with
  | nil => intro s k _; exact .inl ⟨rfl, by simp⟩
  | cons y r ih =>
    intro s k hk
    unfold fndFrom
    by_cases h : y = s
    · rw [if_pos h]
      right
      refine ⟨Int.le_refl _, by simp only [List.length_cons]; omega, by rw [h]; simp, fun j hj => by omega⟩
    · rw [if_neg h]
      rcases ih s (k + 1) (by omega) with ⟨h1, h2⟩ | ⟨h1, h2, h3, h4⟩
      · left
        refine ⟨h1, ?_⟩
        rw [List.mem_cons]
        exact fun h5 => h5.elim (fun e => h e.symm) h2
      · right
        have e : (fndFrom r s (k + 1) - k).toNat = (fndFrom r s (k + 1) - (k + 1)).toNat + 1 := by omega
        refine ⟨by omega, by simp only [List.length_cons]; omega, by rw [e, List.getElem?_cons_succ]; exact h3, fun j hj => ?_⟩
        cases j with
        | zero => simp only [List.getElem?_cons_zero]; exact fun e => h (Option.some.inj e)
        | succ j => rw [List.getElem?_cons_succ]; exact h4 j (by omega)
theorem fnd_spec (l : List Str) (s : Str) : (fnd l s = -1 ∧ s ∉ l) ∨ (0 ≤ fnd l s ∧ fnd l s < l.length ∧ l[(fnd l s).toNat]? = some s ∧ ∀ j : Nat, j < (fnd l s).toNat → l[j]? ≠ some s) := by
  have := fndFrom_spec l s 0 (Int.le_refl _)
  unfold fnd
  simpa using this
def idx (l : List Str) (s : Str) : Option Int := if fnd l s < 0 then none else some (fnd l s)
theorem idx_inj (l : List Str) : ∀ a b c, idx l a = some c → idx l b = some c → a = b := by
  intro a b c h1 h2
  unfold idx at h1 h2
  split at h1
  · cases h1
  split at h2
  · cases h2
  cases h1
  have h3 := Option.some.inj h2
  rcases fnd_spec l a with h | h
  · omega
  rcases fnd_spec l b with h' | h'
  · omega
  have e1 := h.2.2.1
  have e2 := h'.2.2.1
  rw [h3, e1] at e2
  cases e2; rfl
theorem idx_range {l : List Str} {s : Str} {c : Int} (h : idx l s = some c) : 0 ≤ c ∧ c < l.length := by
  unfold idx at h
  split at h
  · cases h
  cases h
  rcases fnd_spec l s with h' | h'
  · omega
  · exact ⟨h'.1, h'.2.1⟩
theorem fnd_mem (l : List Str) (s : Str) : decide ((0 : Int) ≤ fnd l s) = decide (s ∈ l) := by
  rcases fnd_spec l s with h | h
  · rw [decide_eq_false h.2, decide_eq_false (by omega)]
  · rw [decide_eq_true h.1, decide_eq_true (List.mem_of_getElem? h.2.2.1)]
def nmx (l : List GNode) : Nat → Int → List Str
  | 0, _ => []
  | h + 1, i => match (if 0 ≤ i then l[i.toNat]? else none) with
    | none => []
    | some n => if n.kind = 11 then [n.name] else (kidsOf n).flatMap (nmx l h)
theorem nm_node {l : List GNode} {h : Nat} {i : Nat} {n : GNode} (e : l[i]? = some n) : nmx l (h + 1) (i : Int) = if n.kind = 11 then [n.name] else (kidsOf n).flatMap (nmx l h) := by
  rw [nmx, if_pos (by omega)]
  have : ((i : Int)).toNat = i := by omega
  rw [this, e]
theorem Kids.append {S : Nat → Nat → Prop} {ys : List Int} : ∀ {xs : List Int} {a b : Nat}, Kids S (xs ++ ys) a b → ∃ c, Kids S xs a c ∧ Kids S ys c b := by
  intro xs
  induction xs with
  | nil => intro a b h; exact ⟨a, rfl, h⟩
  | cons k r ih => intro a b ⟨c, h0, h1, h2⟩; obtain ⟨d, h3, h4⟩ := ih h2; exact ⟨d, ⟨c, h0, h1, h3⟩, h4⟩
theorem nm_len : ∀ {h l i j}, Sub h l i j → (nmx l h (i : Int)).length ≤ j - i := by
  intro h
  induction h with
  | zero => intro l i j h; exact h.elim
  | succ h ih =>
    intro l i j hs
    have hlt := hs.lt
    obtain ⟨n, h1, h2⟩ := hs
    rw [nm_node h1]
    split
    · simp only [List.length_singleton]; omega
    · have key : ∀ (r : List Int) a b, Kids (Sub h l) r a b → (r.flatMap (nmx l h)).length ≤ b - a := by
        intro r
        induction r with
        | nil => intro a b _; simp
        | cons k r ihr =>
          intro a b hk
          have hle := Kids.le (fun x y h => Nat.le_of_lt h.lt) hk
          obtain ⟨c, h3, h4, h5⟩ := hk
          have hle2 := Kids.le (fun x y h => Nat.le_of_lt h.lt) h5
          have := h4.lt
          have h6 := ih h4
          have h7 := ihr _ _ h5
          rw [List.flatMap_cons, List.length_append, h3]
          omega
      have := key _ _ _ h2
      omega
theorem Kids.length {h : Nat} {l : List GNode} : ∀ {r a b}, Kids (Sub h l) r a b → r.length ≤ b - a := by
  intro r
  induction r with
  | nil => intro a b _; exact Nat.zero_le _
  | cons k r ih =>
    intro a b ⟨c, _, h4, h5⟩
    have := h4.lt
    have := ih h5
    have := Kids.le (fun x y h => Nat.le_of_lt h.lt) h5
    rw [List.length_cons]
    omega
theorem Kids.sub {h : Nat} {l : List GNode} : ∀ {r a b}, Kids (Sub h l) r a b → ∀ i, a ≤ i → i < b → ∃ h' j, h' ≤ h ∧ Sub h' l i j ∧ j ≤ b := by
  induction h with
  | zero =>
    intro r a b hk i h1 h2
    cases r with
    | nil => cases hk; omega
    | cons k r => obtain ⟨c, _, h, _⟩ := hk; exact h.elim
  | succ h ih =>
    intro r
    induction r with
    | nil => intro a b hk i h1 h2; cases hk; omega
    | cons k r ihr =>
      intro a b ⟨c, h3, h4, h5⟩ i h1 h2
      have hle := Kids.le (fun x y h => Nat.le_of_lt h.lt) h5
      rcases Nat.lt_or_ge i c with h6 | h6
      · rcases Nat.lt_or_ge a i with h7 | h7
        · obtain ⟨n, h8, h9⟩ := h4
          obtain ⟨h', j, e1, e2, e3⟩ := ih h9 i (by omega) h6
          exact ⟨h', j, by omega, e2, by omega⟩
        · have : i = a := by omega
          subst this
          exact ⟨h + 1, c, Nat.le_refl _, h4, hle⟩
      · exact ihr h5 i h6 h2

theorem flatMap_eq {α β : Type} {f g : α → List β} : ∀ {l : List α}, (∀ x ∈ l, f x = g x) → l.flatMap f = l.flatMap g := by
  intro l
  induction l with
  | nil => intro _; rfl
  | cons x l ih => intro h; rw [List.flatMap_cons, List.flatMap_cons, h x List.mem_cons_self, ih fun y hy => h y (List.mem_cons_of_mem _ hy)]
theorem Kids.mem {S : Nat → Nat → Prop} {k : Int} : ∀ {r a b}, Kids S r a b → k ∈ r → ∃ (c d : Nat), k = (c : Int) ∧ S c d := by
  intro r
  induction r with
  | nil => intro a b _ h; cases h
  | cons x r ih =>
    intro a b ⟨c, h1, h2, h3⟩ h
    rcases List.mem_cons.1 h with e | e
    · exact ⟨a, c, e.trans h1, h2⟩
    · exact ih h3 e
theorem nm_mono : ∀ {h h' l i j}, Sub h l i j → h ≤ h' → nmx l h' (i : Int) = nmx l h (i : Int) := by
  intro h
  induction h with
  | zero => intro h' l i j hs; exact hs.elim
  | succ h ih =>
    intro h' l i j ⟨n, h1, h2⟩ hle
    obtain ⟨h'', rfl⟩ : ∃ h'', h' = h'' + 1 := ⟨h' - 1, by omega⟩
    rw [nm_node h1, nm_node h1]
    split
    · rfl
    · refine flatMap_eq fun k hk => ?_
      obtain ⟨c, d, e1, e2⟩ := h2.mem hk
      rw [e1]
      exact ih e2 (by omega)
theorem nm_out {l : List GNode} {h : Nat} {i : Int} (hi : i < 0 ∨ (l.length : Int) ≤ i) : nmx l h i = [] := by
  cases h with
  | zero => rfl
  | succ h =>
    rw [nmx]
    have : (if 0 ≤ i then l[i.toNat]? else none) = none := by
      split
      · rename_i h0
        exact List.getElem?_eq_none (by omega)
      · rfl
    rw [this]

theorem WF.at {m : GMod} (w : WF m) {i : Nat} (hi : i < m.nodes.length) : ∃ h j, h ≤ 17 ∧ Sub h m.nodes i j ∧ j ≤ m.nodes.length := w.forest.sub i (Nat.zero_le _) hi
def nms (m : GMod) (node : Int) : List Str := nmx m.nodes 17 node
theorem nms_len {m : GMod} (w : WF m) (node : Int) : (nms m node).length ≤ 300 := by
  have hl := w.nodes
  unfold nms
  by_cases hi : node < 0 ∨ (m.nodes.length : Int) ≤ node
  · rw [nm_out hi]; simp
  · obtain ⟨i, rfl⟩ : ∃ i : Nat, node = (i : Int) := ⟨node.toNat, by omega⟩
    obtain ⟨h, j, h1, h2, h3⟩ := w.at (i := i) (by omega)
    rw [nm_mono h2 h1]
    have := nm_len h2
    omega
def uses (m : GMod) (node : Int) : List Int := adds [] ((nms m node).filterMap (idx m.names))
def lost (m : GMod) (node : Int) : Bool := (nms m node).any (fun s => fnd m.names s < 0)
theorem drop_cons {α : Type} {l : List α} {k : Int} {y : α} (h0 : 0 ≤ k) (h : l[k.toNat]? = some y) : l.drop k.toNat = y :: l.drop (k + 1).toNat := by
  have hk : k.toNat < l.length := by
    rcases Nat.lt_or_ge k.toNat l.length with h1 | h1
    · exact h1
    · rw [List.getElem?_eq_none h1] at h; cases h
  have e : (k + 1).toNat = k.toNat + 1 := by omega
  rw [e, List.drop_eq_getElem_cons hk]
  rw [List.getElem?_eq_getElem hk] at h
  rw [Option.some.inj h]
abbrev Gr := List (List Int)
def Ed (U : Gr) (i j : Int) : Prop := 0 ≤ i ∧ ∃ l, U[i.toNat]? = some l ∧ j ∈ l
inductive Reach (U : Gr) : Int → Int → Prop
  | one {i j} : Ed U i j → Reach U i j
  | tail {i j k} : Reach U i j → Ed U j k → Reach U i k
structure GOk (U : Gr) : Prop where
  len : U.length ≤ 40
  ok : ∀ l ∈ U, l.length ≤ 40 ∧ ∀ j ∈ l, 0 ≤ j ∧ j < U.length
theorem GOk.ed {U i j} (g : GOk U) (h : Ed U i j) : 0 ≤ j ∧ j < U.length := by
  obtain ⟨_, l, h1, h2⟩ := h
  exact (g.ok l (List.mem_of_getElem? h1)).2 j h2
theorem Reach.trans {U i j k} (h1 : Reach U i j) (h2 : Reach U j k) : Reach U i k := by
  induction h2 with
  | one e => exact h1.tail e
  | tail _ e ih => exact ih.tail e

/-! ### By depth -/
def On (s : List Bool) (v : Int) : Prop := 0 ≤ v ∧ s[v.toNat]? = some true
def cf : List Bool → Nat
  | [] => 0
  | b :: r => (if b then 0 else 1) + cf r
theorem cf_set : ∀ {s : List Bool} {k : Nat}, s[k]? = some false → cf (s.set k true) + 1 = cf s := by
  intro s
  induction s with
  | nil => intro k h; simp at h
  | cons b s ih =>
    intro k h
    cases k with
    | zero => simp only [List.getElem?_cons_zero] at h; cases h; simp [cf]; omega
    | succ k => simp only [List.getElem?_cons_succ] at h; have := ih h; simp only [List.set_cons_succ, cf]; omega
theorem cf_le : ∀ s : List Bool, cf s ≤ s.length := by
  intro s
  induction s with
  | nil => exact Nat.le_refl _
  | cons b s ih => simp only [cf, List.length_cons]; split <;> omega
theorem On.set {s : List Bool} {k v : Int} (h0 : 0 ≤ k) (hk : k < s.length) : On (s.set k.toNat true) v ↔ On s v ∨ v = k := by
  unfold On
  by_cases h : v = k
  · subst h
    rw [List.getElem?_set_self (by omega)]
    exact ⟨fun _ => .inr rfl, fun _ => ⟨h0, rfl⟩⟩
  · by_cases hv : 0 ≤ v
    · rw [List.getElem?_set_ne (by omega)]
      exact ⟨.inl, fun h1 => h1.elim (fun h => h) fun e => absurd e h⟩
    · exact ⟨fun h1 => absurd h1.1 hv, fun h1 => h1.elim (fun h2 => absurd h2.1 hv) fun e => absurd e h⟩
structure Dep (U : Gr) (i : Int) (s r : List Bool) : Prop where
  len : r.length = s.length
  mono : ∀ v, On s v → On r v
  new : ∀ v, On r v → On s v ∨ (Reach U i v ∧ ∀ j, Ed U v j → On r j)
  cf : cf r ≤ cf s
theorem on_rep {n : Nat} {v : Int} : ¬ On (List.replicate n false) v := by
  intro ⟨_, h⟩
  have := List.mem_of_getElem? h
  rw [List.mem_replicate] at this
  cases this.2
/-! ### One that is ready -/
theorem exists_ready {U : Gr} (g : GOk U) (hac : ∀ i, ¬ Reach U i i) (out : List Int) (hl : out.length < U.length) : ∃ i : Int, 0 ≤ i ∧ i < U.length ∧ i ∉ out ∧ ∀ j, Ed U i j → j ∈ out := by
  refine Classical.byContradiction fun hno => ?_
  have hno : ∀ i : Int, 0 ≤ i → i < U.length → i ∉ out → ∃ j, Ed U i j ∧ j ∉ out := by
    intro i h1 h2 h3
    refine Classical.byContradiction fun h4 => hno ⟨i, h1, h2, h3, fun j hj => Classical.byContradiction fun h5 => h4 ⟨j, hj, h5⟩⟩
  have hst : ∃ i : Int, 0 ≤ i ∧ i < U.length ∧ i ∉ out := by
    refine Classical.byContradiction fun h => ?_
    have := length_le_of_nodup (a := nums U.length) (b := out) (nodup_nums _) fun x hx => by
      have := mem_nums.1 hx
      exact Classical.byContradiction fun h2 => h ⟨x, this.1, this.2, h2⟩
    rw [length_nums] at this
    omega
  have path : ∀ k : Nat, ∃ (h : Int) (p : List Int), p.length = k ∧ (h :: p).Nodup ∧ (∀ x ∈ h :: p, 0 ≤ x ∧ x < U.length ∧ x ∉ out) ∧ ∀ x ∈ p, Reach U x h := by
    intro k
    induction k with
    | zero =>
      obtain ⟨i, h1, h2, h3⟩ := hst
      exact ⟨i, [], rfl, by simp, fun x hx => by rw [List.mem_singleton.1 hx]; exact ⟨h1, h2, h3⟩, fun x hx => by cases hx⟩
    | succ k ih =>
      obtain ⟨h, p, e1, e2, e3, e4⟩ := ih
      obtain ⟨j, hj1, hj2⟩ := hno h (e3 h List.mem_cons_self).1 (e3 h List.mem_cons_self).2.1 (e3 h List.mem_cons_self).2.2
      have hall : ∀ x ∈ h :: p, Reach U x j := by
        intro x hx
        rcases List.mem_cons.1 hx with e | e
        · rw [e]; exact .one hj1
        · exact (e4 x e).tail hj1
      refine ⟨j, h :: p, by rw [List.length_cons, e1], List.nodup_cons.2 ⟨fun hm => hac j (hall j hm), e2⟩, fun x hx => ?_, hall⟩
      rcases List.mem_cons.1 hx with e | e
      · rw [e]; have := g.ed hj1; exact ⟨this.1, this.2, hj2⟩
      · exact e3 x e
  obtain ⟨h, p, e1, e2, e3, _⟩ := path U.length
  have := length_le_of_nodup (b := nums U.length) e2 fun x hx => mem_nums.2 ⟨(e3 x hx).1, (e3 x hx).2.1⟩
  rw [length_nums, List.length_cons] at this
  omega
def first (P : Int → Bool) : Nat → Int → Option Int
  | 0, _ => none
  | n + 1, k => if P k then some k else first P n (k + 1)
theorem first_none {P : Int → Bool} : ∀ {n k}, first P n k = none → ∀ i, k ≤ i → i < k + n → P i = false := by
  intro n
  induction n with
  | zero => intro k _ i h1 h2; omega
  | succ n ih =>
    intro k h i h1 h2
    unfold first at h
    cases hp : P k with
    | true => rw [hp] at h; cases h
    | false =>
      rw [hp] at h
      rcases Int.lt_or_le k i with h3 | h3
      · exact ih h i (by omega) (by omega)
      · have : i = k := by omega
        rw [this]; exact hp
theorem first_some {P : Int → Bool} : ∀ {n k i}, first P n k = some i → k ≤ i ∧ i < k + n ∧ P i = true := by
  intro n
  induction n with
  | zero => intro k i h; cases h
  | succ n ih =>
    intro k i h
    unfold first at h
    cases hp : P k with
    | true => rw [hp] at h; cases h; exact ⟨Int.le_refl _, by omega, hp⟩
    | false => rw [hp] at h; have := ih h; exact ⟨by omega, by omega, this.2.2⟩
def At (P : Int → Bool) (n : Nat) (k : Int) : Prop := 0 ≤ k ∧ k ≤ n ∧ first P n 0 = first P ((n : Int) - k).toNat k
theorem At.zero (P : Int → Bool) (n : Nat) : At P n 0 := ⟨Int.le_refl _, by omega, by simp⟩
theorem At.next {P : Int → Bool} {n : Nat} {k : Int} (h : At P n k) (hk : k < n) (hp : P k = false) : At P n (k + 1) := by
  obtain ⟨h1, h2, h3⟩ := h
  have e : ((n : Int) - k).toNat = ((n : Int) - (k + 1)).toNat + 1 := by omega
  rw [e, first, hp] at h3
  exact ⟨by omega, by omega, h3⟩
theorem At.hit {P : Int → Bool} {n : Nat} {k : Int} (h : At P n k) (hk : k < n) (hp : P k = true) : first P n 0 = some k := by
  obtain ⟨h1, h2, h3⟩ := h
  have e : ((n : Int) - k).toNat = ((n : Int) - (k + 1)).toNat + 1 := by omega
  rw [e, first, hp] at h3
  exact h3
theorem At.miss {P : Int → Bool} {n : Nat} {k : Int} (h : At P n k) (hk : ¬ k < n) : first P n 0 = none := by
  obtain ⟨h1, h2, h3⟩ := h
  have e : ((n : Int) - k).toNat = 0 := by omega
  rw [e] at h3
  exact h3

/-! ### What is wrong first -/
/-- What uses what. -/
def gr (m : GMod) : Gr := m.types.map (uses m)
theorem gr_len {m : GMod} (w : WF m) : (gr m).length = m.names.length := by unfold gr; rw [List.length_map]; exact w.types
theorem uses_range {m : GMod} {t x : Int} (h : x ∈ uses m t) : 0 ≤ x ∧ x < m.names.length := by
  unfold uses at h
  rcases mem_adds.1 h with e | e
  · cases e
  · obtain ⟨s, _, h2⟩ := List.mem_filterMap.1 e
    exact idx_range h2
theorem gr_ok {m : GMod} (w : WF m) : GOk (gr m) := by
  refine ⟨by rw [gr_len w]; exact w.names, fun l hl => ?_⟩
  unfold gr at hl
  obtain ⟨t, _, rfl⟩ := List.mem_map.1 hl
  refine ⟨?_, fun j hj => by rw [gr_len w]; exact uses_range hj⟩
  have := length_le_of_nodup (a := uses m t) (b := nums m.names.length) (nodup_adds List.nodup_nil) fun x hx => mem_nums.2 (uses_range hx)
  rw [length_nums] at this
  have := w.names
  omega
def twice (m : GMod) (i : Int) : Bool := match m.names[i.toNat]? with | some s => decide (fnd m.names s < i) | none => false
def none_ (m : GMod) (i : Int) : Bool := match m.types[i.toNat]? with | some t => lost m t | none => false
open Classical in
noncomputable def cycle (m : GMod) (i : Int) : Bool := decide (Reach (gr m) i i)
noncomputable def wr (m : GMod) : Int × Int :=
  match first (twice m) m.names.length 0 with
  | some i => (i, 8)
  | none => match first (none_ m) m.names.length 0 with
    | some i => (i, 9)
    | none => match first (cycle m) m.names.length 0 with
      | some i => (i, 10)
      | none => (0, 0)
open Classical in
theorem cycle_of {m : GMod} {b : Bool} {i : Int} (h : b = true ↔ Reach (gr m) i i) : cycle m i = b := by
  unfold cycle
  cases b with
  | true => exact decide_eq_true (h.1 rfl)
  | false => exact decide_eq_false fun h2 => by cases h.2 h2
def rdy (U : Gr) (out : List Int) (i : Int) : Bool := decide (i ∉ out) && ((U[i.toNat]?).getD []).all (fun j => decide (j ∈ out))
def topo (U : Gr) : Nat → List Int → List Int
  | 0, out => out
  | k + 1, out => match first (rdy U out) U.length 0 with
    | some i => topo U k (out ++ [i])
    | none => out
noncomputable def ordr (m : GMod) : List Int × Int × Int := if (wr m).2 = 0 then (topo (gr m) m.names.length [], 0, 0) else ([], (wr m).1, (wr m).2)
theorem no_cycle {m : GMod} (w : WF m) (h : (wr m).2 = 0) : ∀ i, ¬ Reach (gr m) i i := by
  intro i hr
  have hi : 0 ≤ i ∧ i < (gr m).length := by
    cases hr with
    | one e => exact (gr_ok w).ed e
    | tail _ e => exact (gr_ok w).ed e
  rw [gr_len w] at hi
  unfold wr at h
  split at h
  · cases h
  split at h
  · cases h
  split at h
  · cases h
  · rename_i h3
    have := first_none h3 i hi.1 (by omega)
    have h4 : cycle m i = true := cycle_of (b := true) ⟨fun _ => hr, fun _ => rfl⟩
    rw [this] at h4; cases h4
theorem first_rdy {m : GMod} (w : WF m) (h : (wr m).2 = 0) {out : List Int} (hl : out.length < m.names.length) : first (rdy (gr m) out) (gr m).length 0 ≠ none := by
  intro hn
  obtain ⟨i, h1, h2, h3, h4⟩ := exists_ready (gr_ok w) (no_cycle w h) out (by rw [gr_len w]; exact hl)
  have := first_none hn i h1 (by omega)
  unfold rdy at this
  rw [decide_eq_true h3, Bool.true_and] at this
  have ha : ((gr m)[i.toNat]?.getD []).all (fun j => decide (j ∈ out)) = true := by
    rw [List.all_eq_true]
    intro j hj
    rw [List.getElem?_eq_getElem (by omega)] at hj
    exact decide_eq_true (h4 j ⟨h1, _, List.getElem?_eq_getElem (by omega), hj⟩)
  rw [this] at ha; cases ha
def Tp (m : GMod) (out : List Int) : Prop := out.length ≤ m.names.length ∧ topo (gr m) (m.names.length - out.length) out = topo (gr m) m.names.length []
theorem Tp.nil (m : GMod) : Tp m [] := ⟨Nat.zero_le _, rfl⟩
theorem Tp.next {m : GMod} {out : List Int} {i : Int} (h : Tp m out) (hl : out.length < m.names.length) (hf : first (rdy (gr m) out) (gr m).length 0 = some i) : Tp m (out ++ [i]) := by
  obtain ⟨h1, h2⟩ := h
  have e : m.names.length - out.length = (m.names.length - (out ++ [i]).length) + 1 := by rw [List.length_append, List.length_singleton]; omega
  rw [e, topo, hf] at h2
  exact ⟨by rw [List.length_append, List.length_singleton]; omega, h2⟩
theorem Tp.done {m : GMod} {out : List Int} (h : Tp m out) (hl : ¬ (out.length : Int) < m.names.length) : out = topo (gr m) m.names.length [] := by
  obtain ⟨h1, h2⟩ := h
  have e : m.names.length - out.length = 0 := by omega
  rw [e] at h2
  exact h2

def Good (U : Gr) (out : List Int) : Prop := ∀ (k : Nat) (i : Int), out[k]? = some i → 0 ≤ i ∧ i < U.length ∧ i ∉ out.take k ∧ ∀ j ∈ (U[i.toNat]?).getD [], j ∈ out.take k
theorem Good.nil (U : Gr) : Good U [] := fun k i h => by simp at h
theorem Good.next {U : Gr} {out : List Int} {i : Int} (h : Good U out) (hf : first (rdy U out) U.length 0 = some i) : Good U (out ++ [i]) := by
  obtain ⟨h1, h2, h3⟩ := first_some hf
  unfold rdy at h3
  rw [Bool.and_eq_true] at h3
  intro k x hk
  rcases Nat.lt_trichotomy k out.length with e | e | e
  · rw [List.getElem?_append_left e] at hk
    rw [List.take_append_of_le_length (by omega)]
    exact h k x hk
  · subst e
    rw [List.getElem?_append_right (Nat.le_refl _)] at hk
    simp at hk
    subst hk
    rw [List.take_append_of_le_length (Nat.le_refl _), List.take_length]
    exact ⟨h1, by omega, of_decide_eq_true h3.1, fun j hj => of_decide_eq_true (List.all_eq_true.1 h3.2 j hj)⟩
  · rw [List.getElem?_append_right (by omega), List.getElem?_eq_none (by simp; omega)] at hk
    cases hk
theorem topo_good (U : Gr) : ∀ k out, Good U out → Good U (topo U k out) := by
  intro k
  induction k with
  | zero => intro out h; exact h
  | succ k ih =>
    intro out h
    unfold topo
    split
    · rename_i i hi; exact ih _ (h.next hi)
    · exact h
theorem topo_full {m : GMod} (w : WF m) (h : (wr m).2 = 0) : ∀ k out, out.length + k = m.names.length → (topo (gr m) k out).length = m.names.length := by
  intro k
  induction k with
  | zero => intro out h; exact h
  | succ k ih =>
    intro out hl
    unfold topo
    split
    · rename_i i hi; exact ih _ (by rw [List.length_append, List.length_singleton]; omega)
    · rename_i hn; exact absurd hn (first_rdy w h (by omega))
theorem ranks {m : GMod} (w : WF m) (h : (wr m).2 = 0) : ∃ rk : Int → Nat, (∀ i, rk i ≤ m.names.length) ∧ ∀ i j, Ed (gr m) i j → rk j < rk i := by
  have hl := topo_full w h m.names.length [] (by simp)
  have hg := topo_good (gr m) m.names.length [] (Good.nil _)
  generalize topo (gr m) m.names.length [] = out at hl hg
  have hgl := gr_len w
  have hnd : out.Nodup := by
    rw [List.nodup_iff_pairwise_ne, List.pairwise_iff_getElem]
    intro i j hi hj hij he
    have h1 := (hg j (out[j]) (List.getElem?_eq_getElem hj)).2.2.1
    refine h1 ?_
    rw [← he]
    exact List.mem_take_iff_getElem.2 ⟨i, by omega, rfl⟩
  have hsub : ∀ x ∈ out, x ∈ nums m.names.length := fun x hx => by
    obtain ⟨k, hk⟩ := List.mem_iff_getElem?.1 hx
    have := hg k x hk
    exact mem_nums.2 ⟨this.1, by omega⟩
  have hall : ∀ i : Int, 0 ≤ i → i < m.names.length → i ∈ out := fun i h0 h1 => by
    refine Classical.byContradiction fun hno => ?_
    have := length_le_of_nodup (a := i :: out) (b := nums m.names.length) (List.nodup_cons.2 ⟨hno, hnd⟩) (fun x hx => by
      rcases List.mem_cons.1 hx with e | e
      · rw [e]; exact mem_nums.2 ⟨h0, h1⟩
      · exact hsub x e)
    rw [length_nums, List.length_cons] at this
    omega
  refine ⟨fun i => out.idxOf i, fun i => by rw [← hl]; exact List.idxOf_le_length, fun i j ⟨h0, l, h1, h2⟩ => ?_⟩
  have hi : i < m.names.length := by
    have := (List.getElem?_eq_some_iff.1 h1).1
    omega
  have hio := hall i h0 hi
  have hlt := List.idxOf_lt_length_of_mem hio
  have hk := hg (out.idxOf i) i (by rw [List.getElem?_eq_getElem hlt, List.getElem_idxOf])
  have hj := hk.2.2.2 j (by rw [h1]; exact h2)
  obtain ⟨n, hn, he⟩ := List.mem_take_iff_getElem.1 hj
  have hn2 : n < out.length := by omega
  have : out.idxOf j ≤ n := by
    rw [← he]
    rw [hnd.idxOf_getElem n hn2]
    exact Nat.le_refl _
  show out.idxOf j < out.idxOf i
  omega
end Go.Proofs.YtiibmpdjkdjbiaaGreatDoor


namespace Go.Proofs.YtiibmpdjkdjbiaaGreatDoor
open Go.Sy
set_option linter.unusedVariables false

section lists
variable {α β : Type} [DecidableEq α] [DecidableEq β]
end lists

/-! ### Places of names -/
theorem index_eq (l : List Str) (s : Str) (hl : l.length ≤ 1000000) : slices_Index_Lstring_string l s = some (fnd l s) := by
  refine T.eqs ?_
  unfold slices_Index_Lstring_string
  refine T.lp (fun (k : Int) => 0 ≤ k ∧ k ≤ (l.length : Int) ∧ fnd l s = fndFrom (l.drop k.toNat) s k) (fun (k : Int) => ((l.length : Int) - k).toNat) ⟨Int.le_refl _, by omega, rfl⟩ (by omega) fun L k ⟨h1, h2, h3⟩ hL => ?_
  refine T.br (fun hb => ?_) fun hb => T.some ?_
  · have hb := of_decide_eq_true hb
    refine T.get h1 hb fun y hy => ?_
    have hd : l.drop k.toNat = y :: l.drop (k.toNat + 1) := by
      rw [List.drop_eq_getElem_cons (by omega)]
      rw [List.getElem?_eq_getElem (by omega)] at hy
      rw [Option.some.inj hy]
    rw [hd] at h3
    unfold fndFrom at h3
    refine T.br (fun he => T.some ?_) fun he => T.ck (by omega) (hL _ ⟨by omega, by omega, ?_⟩ (by omega))
    · rw [h3, if_pos (of_decide_eq_true he).symm]
    · have e : (k + 1).toNat = k.toNat + 1 := by omega
      rw [h3, if_neg (fun h => of_decide_eq_false he h.symm), e]
  · have hb := of_decide_eq_false hb
    rw [List.drop_eq_nil_of_le (by omega)] at h3
    exact h3.symm
theorem find_eq (m : GMod) (s : Str) (hl : m.names.length ≤ 1000000) : refs_Find m s = some (fnd m.names s) := by
  unfold refs_Find
  exact T.eqs (T.eq (index_eq _ _ hl) (T.some rfl))
theorem contains_eq (l : List Str) (s : Str) (hl : l.length ≤ 1000000) : slices_Contains_Lstring_string l s = some (decide (s ∈ l)) := by
  unfold slices_Contains_Lstring_string
  exact T.eqs (T.eq (index_eq _ _ hl) (T.some (fnd_mem l s)))
theorem with1_eq (l : List Str) (s : Str) (hl : l.length ≤ 10000) : refs_with l [s] = some (add l s) := by
  refine T.eqs ?_
  unfold refs_with
  refine T.lp (fun (q : List Str × Int) => (q.2 = 0 ∧ q.1 = l) ∨ (q.2 = 1 ∧ q.1 = add l s)) (fun (q : List Str × Int) => (1 - q.2).toNat) (.inl ⟨rfl, rfl⟩) (by dsimp only; omega) fun L q hq hL => ?_
  obtain ⟨l1, k⟩ := q
  dsimp only at hq ⊢
  refine T.br (fun hb => ?_) fun hb => T.some ?_
  · have hb : k < 1 := of_decide_eq_true hb
    rcases hq with ⟨h1, h2⟩ | ⟨h1, h2⟩
    · subst h1; subst h2
      refine T.jp (fun q => q = add l1 s) (fun J h => T.get (Int.le_refl _) (by simp) fun y hy => ?_) fun q hq => T.ck (by omega) (hL _ (.inr ⟨rfl, hq⟩) (by dsimp only; omega))
      have hy : s = y := by simpa using hy
      subst hy
      refine T.eq (contains_eq _ _ (by omega)) (T.br (fun h3 => T.abl (by simp only [List.length_singleton]; omega) (h _ ?_)) fun h3 => h _ ?_)
      · unfold add; rw [if_neg (by simpa using h3)]
      · unfold add; rw [if_pos (by simpa using h3)]
    · omega
  · have hb : ¬ k < 1 := of_decide_eq_false hb
    rcases hq with ⟨h1, h2⟩ | ⟨h1, h2⟩
    · omega
    · exact h2
/-! ### The program's walk -/
theorem refers1_eq (n : GNode) (acc : List Str) (hl : acc.length ≤ 10000) : refs_refers_c1 n acc = some (if n.kind = 11 then add acc n.name else acc) := by
  refine T.eqs ?_
  unfold refs_refers_c1
  refine T.br (fun h => T.eq (with1_eq _ _ hl) (T.some ?_)) fun h => T.some ?_
  · rw [if_pos (of_decide_eq_true h)]
  · rw [if_neg (of_decide_eq_false h)]
def WalkS (m : GMod) (f : GMod → Int → List Bool → List Str → Option (List Bool × List Str)) (h : Nat) : Prop := ∀ i j seen acc, Sub h m.nodes i j → j ≤ m.nodes.length → seen.length = m.nodes.length → (∀ k, i ≤ k → k < j → seen[k]? = some false) → acc.length ≤ i →
  T (fun r => r.1.length = seen.length ∧ (∀ k, j ≤ k → r.1[k]? = seen[k]?) ∧ r.2 = adds acc (nmx m.nodes h i) ∧ r.2.length ≤ j) (f m i seen acc)
theorem walk_step {m f h} (hl : m.nodes.length ≤ 300) (ih : WalkS m f h) : WalkS m (refs_walk_F f) (h + 1) := by
  intro i j seen acc hs hj hsl hsf hacc
  have hij := hs.lt
  obtain ⟨n, hn, hk⟩ := hs
  unfold refs_walk_F
  have hi : i < m.nodes.length := by omega
  have hsi := hsf i (Nat.le_refl _) hij
  have htn : ((i : Int)).toNat = i := by omega
  refine T.jp (fun b => b = false) (fun J k => T.br (fun hb => by have := of_decide_eq_true hb; omega) fun _ => k _ (decide_eq_false (by omega))) fun b hb => ?_
  subst hb
  refine T.jp (fun b => b = false) (fun J k => T.br (fun hb => by cases hb) fun _ => T.asd (by omega) (T.eq (y := false) (by rw [htn]; exact hsi) (k _ rfl))) fun b hb => ?_
  subst hb
  refine T.br (fun hb => by cases hb) fun _ => T.asd (by omega) (T.eq (y := false) (by rw [htn]; exact hsi) ?_)
  refine T.get (by omega) (by omega) fun n' hn' => ?_
  rw [htn, hn] at hn'
  cases hn'
  refine T.eq (refers1_eq _ _ (by omega)) ?_
  rw [nm_node hn]
  have hset : ∀ k, i + 1 ≤ k → (seen.set i true)[k]? = seen[k]? := fun k hk => List.getElem?_set_ne (by omega)
  refine T.br (fun hr => T.some ?_) fun hr => ?_
  · have hr := of_decide_eq_true hr
    rw [if_pos hr, if_pos hr]
    refine ⟨by rw [htn]; exact List.length_set, fun k hk => by rw [htn]; exact hset k (by omega), rfl, ?_⟩
    have := length_add acc n.name
    dsimp only
    omega
  · have hr := of_decide_eq_false hr
    rw [if_neg hr, if_neg hr]
    unfold kidsOf at hk ⊢
    rw [if_neg hr] at hk ⊢
    obtain ⟨c, hk1, hk2⟩ := Kids.append hk
    rw [List.flatMap_append]
    have hc := Kids.le (fun x y h => Nat.le_of_lt h.lt) hk2
    have hfl := hk1.length
    rw [List.length_map] at hfl
    refine T.lp (fun (q : List Bool × Int × List Str) => 0 ≤ q.2.1 ∧ q.2.1 ≤ (n.fields.length : Int) ∧ ∃ d, Kids (Sub h m.nodes) ((n.fields.drop q.2.1.toNat).map (fun f => f.ty)) d c ∧ i + 1 ≤ d ∧ q.1.length = seen.length ∧ (∀ k, d ≤ k → q.1[k]? = seen[k]?) ∧ adds q.2.2 (((n.fields.drop q.2.1.toNat).map (fun f => f.ty)).flatMap (nmx m.nodes h)) = adds acc ((n.fields.map (fun f => f.ty)).flatMap (nmx m.nodes h)) ∧ q.2.2.length ≤ d) (fun (q : List Bool × Int × List Str) => ((n.fields.length : Int) - q.2.1).toNat)
      ⟨Int.le_refl _, by dsimp only; omega, i + 1, hk1, Nat.le_refl _, by dsimp only; rw [htn]; exact List.length_set, fun k hk => by dsimp only; rw [htn]; exact hset k hk, rfl, by dsimp only; omega⟩ ?_ fun L q hq hL => ?_
    · dsimp only; omega
    · obtain ⟨s1, k, a1⟩ := q
      obtain ⟨q1, q2, d, q3, q4, q5, q6, q7, q8⟩ := hq
      dsimp only at q1 q2 q3 q5 q6 q7 q8 ⊢
      have hd := Kids.le (fun x y h => Nat.le_of_lt h.lt) q3
      refine T.br (fun hb => ?_) fun hb => ?_
      · have hb := of_decide_eq_true hb
        refine T.get q1 hb fun y hy => ?_
        have hdr : n.fields.drop k.toNat = y :: n.fields.drop (k.toNat + 1) := by
          rw [List.drop_eq_getElem_cons (by omega)]
          rw [List.getElem?_eq_getElem (by omega)] at hy
          rw [Option.some.inj hy]
        have ek : (k + 1).toNat = k.toNat + 1 := by omega
        rw [hdr, List.map_cons] at q3 q7
        obtain ⟨c1, e1, e2, e3⟩ := q3
        have hc1 := Kids.le (fun x y h => Nat.le_of_lt h.lt) e3
        have := e2.lt
        rw [e1]
        refine T.cal (ih d c1 s1 a1 e2 (by omega) (by omega) (fun k hk1 hk2 => by rw [q6 k hk1]; exact hsf k (by omega) (by omega)) q8) fun r _ ⟨r1, r2, r3, r4⟩ => T.asd r1 (T.ck (by omega) (hL _ ⟨by dsimp only; omega, by dsimp only; omega, c1, ?_, by omega, r1.trans q5, fun k hk => (r2 k hk).trans (q6 k (by omega)), ?_, r4⟩ (by dsimp only; omega)))
        · dsimp only; rw [ek]; exact e3
        · dsimp only
          rw [ek, r3, ← q7, List.flatMap_cons, adds_append, e1]
      · have hb := of_decide_eq_false hb
        rw [List.drop_eq_nil_of_le (by omega)] at q3 q7
        cases q3
        rw [adds_append, ← q7]
        refine T.br (fun hl10 => ?_) fun hl10 => T.some ?_
        · have h10 := of_decide_eq_true hl10
          rw [if_pos h10] at hk2 ⊢
          obtain ⟨c1, e1, e2, e3⟩ := hk2
          cases e3
          rw [e1]
          refine T.cal (ih c j s1 a1 e2 (by omega) (by omega) (fun k hk1 hk2 => by rw [q6 k hk1]; exact hsf k (by omega) (by omega)) q8) fun r _ ⟨r1, r2, r3, r4⟩ => T.asd r1 (T.some ⟨r1.trans q5, fun k hk => (r2 k hk).trans (q6 k (by omega)), ?_, r4⟩)
          rw [r3]
          simp [adds_nil]
        · have h10 := of_decide_eq_false hl10
          rw [if_neg h10] at hk2 ⊢
          cases hk2
          exact ⟨q5, q6, rfl, q8⟩
theorem walk_all (m : GMod) (hl : m.nodes.length ≤ 300) : ∀ h n, h ≤ n → WalkS m (refs_walk n) h := by
  intro h
  induction h with
  | zero => intro n _ i j seen acc hs; exact hs.elim
  | succ h ih =>
    intro n hn
    obtain ⟨n', rfl⟩ : ∃ n', n = n' + 1 := ⟨n - 1, by omega⟩
    exact walk_step hl (ih n' (by omega))
theorem walk_out {m n i seen acc} (hi : i < 0 ∨ (m.nodes.length : Int) ≤ i) : refs_walk (n + 1) m i seen acc = some (seen, acc) := by
  refine T.eqs ?_
  show T _ (refs_walk_F (refs_walk n) m i seen acc)
  unfold refs_walk_F
  refine T.jp (fun b => b = true) (fun J k => T.br (fun _ => k _ rfl) fun hb => k _ (decide_eq_true (by have := of_decide_eq_false hb; omega))) fun b hb => ?_
  subst hb
  refine T.jp (fun b => b = true) (fun J k => T.br (fun _ => k _ rfl) fun hb => by cases hb) fun b hb => ?_
  subst hb
  exact T.br (fun _ => T.some rfl) fun hb => by cases hb
theorem refers_eq {m : GMod} (w : WF m) (node : Int) : refs_refers m node = some (adds [] (nms m node)) := by
  refine T.eqs ?_
  unfold refs_refers
  have hl := w.nodes
  refine T.asd (by omega) ?_
  have hrep : (List.replicate ((m.nodes.length : Int)).toNat false).length = m.nodes.length := by rw [List.length_replicate]; omega
  by_cases hi : node < 0 ∨ (m.nodes.length : Int) ≤ node
  · obtain ⟨f', hf⟩ : ∃ f', fuel = f' + 1 := ⟨fuel - 1, by unfold fuel; omega⟩
    rw [hf]
    refine T.eq (walk_out hi) (T.asd rfl (T.some ?_))
    unfold nms
    rw [nm_out hi]; rfl
  · obtain ⟨i, rfl⟩ : ∃ i : Nat, node = (i : Int) := ⟨node.toNat, by omega⟩
    obtain ⟨h, j, h1, h2, h3⟩ := w.at (i := i) (by omega)
    refine T.cal (walk_all m hl h fuel (by unfold fuel; omega) i j _ _ h2 h3 hrep (fun k _ hk => ?_) (Nat.zero_le _)) fun r _ ⟨r1, r2, r3, r4⟩ => T.asd r1 (T.some ?_)
    · rw [List.getElem?_replicate_of_lt (by omega)]
    · rw [r3]; unfold nms; rw [nm_mono h2 h1]
theorem uses_eq {m : GMod} (w : WF m) (node : Int) : refs_Uses m node = some (uses m node) := by
  refine T.eqs ?_
  unfold refs_Uses
  refine T.eq (refers_eq w node) ?_
  have hn := w.names
  have hlen := length_adds (nms m node) []
  have hnl := nms_len w node
  rw [List.length_nil] at hlen
  have e0 : uses m node = ((adds [] (nms m node)).filterMap (idx m.names)) := by
    unfold uses; rw [filterMap_adds _ (idx_inj _)]; rfl
  rw [e0]
  generalize adds [] (nms m node) = l at hlen
  refine T.lp (fun (q : List Int × Int) => 0 ≤ q.2 ∧ q.2 ≤ (l.length : Int) ∧ q.1 ++ (l.drop q.2.toNat).filterMap (idx m.names) = l.filterMap (idx m.names) ∧ (q.1.length : Int) ≤ q.2) (fun (q : List Int × Int) => ((l.length : Int) - q.2).toNat) ⟨Int.le_refl _, by dsimp only; omega, rfl, by simp⟩ (by dsimp only; omega) fun L q ⟨h1, h2, h3, h4⟩ hL => ?_
  obtain ⟨o, k⟩ := q
  dsimp only at h1 h2 h3 h4 ⊢
  refine T.br (fun hb => ?_) fun hb => T.some ?_
  · have hb := of_decide_eq_true hb
    refine T.jp (fun o' => o' ++ (l.drop (k + 1).toNat).filterMap (idx m.names) = l.filterMap (idx m.names) ∧ (o'.length : Int) ≤ k + 1) (fun J h => T.get h1 hb fun y hy => ?_) fun o' ho => T.ck (by omega) (hL _ ⟨by dsimp only; omega, by dsimp only; omega, ho.1, ho.2⟩ (by dsimp only; omega))
    rw [drop_cons h1 hy] at h3
    refine T.eq (find_eq m y (by omega)) (T.br (fun hf => T.abl (by simp only [List.length_singleton]; omega) (h _ ⟨?_, by simp only [List.length_append, List.length_singleton]; omega⟩)) fun hf => h _ ⟨?_, by omega⟩)
    · have hf := of_decide_eq_true hf
      have : idx m.names y = some (fnd m.names y) := by unfold idx; rw [if_neg (by omega)]
      rw [List.filterMap_cons_some this] at h3
      rw [← h3]; simp
    · have hf := of_decide_eq_false hf
      have : idx m.names y = none := by unfold idx; rw [if_pos (by omega)]
      rw [List.filterMap_cons_none this] at h3
      exact h3
  · have hb := of_decide_eq_false hb
    rw [List.drop_eq_nil_of_le (by omega)] at h3
    simpa using h3
theorem lost_eq {m : GMod} (w : WF m) (node : Int) : refs_lost m node = some (lost m node) := by
  refine T.eqs ?_
  unfold refs_lost
  refine T.eq (refers_eq w node) ?_
  have hn := w.names
  have hlen := length_adds (nms m node) []
  have hnl := nms_len w node
  rw [List.length_nil] at hlen
  have e0 : lost m node = (adds [] (nms m node)).any (fun s => decide (fnd m.names s < 0)) := by
    unfold lost
    rw [Bool.eq_iff_iff, List.any_eq_true, List.any_eq_true]
    exact ⟨fun ⟨x, h1, h2⟩ => ⟨x, mem_adds.2 (.inr h1), h2⟩, fun ⟨x, h1, h2⟩ => ⟨x, by simpa using mem_adds.1 h1, h2⟩⟩
  rw [e0]
  generalize adds [] (nms m node) = l at hlen
  have key : T (fun r => decide ((0 : Int) ≤ r) = l.any (fun s => decide (fnd m.names s < 0))) (slices_IndexFunc_Lstring_string l m) := by
    unfold slices_IndexFunc_Lstring_string
    refine T.lp (fun (q : Int) => 0 ≤ q ∧ q ≤ (l.length : Int) ∧ l.any (fun s => decide (fnd m.names s < 0)) = (l.drop q.toNat).any (fun s => decide (fnd m.names s < 0))) (fun (q : Int) => ((l.length : Int) - q).toNat) ⟨Int.le_refl _, by omega, rfl⟩ (by omega) fun L k ⟨h1, h2, h4⟩ hL => ?_
    refine T.br (fun hb => ?_) fun hb => T.some ?_
    · have hb := of_decide_eq_true hb
      refine T.get h1 hb fun y hy => ?_
      rw [drop_cons h1 hy, List.any_cons] at h4
      refine T.eq (y := decide (fnd m.names y < 0)) (T.eqs (by unfold refs_lost_c1; exact T.eq (find_eq _ _ (by omega)) (T.some rfl))) (T.br (fun hf => T.some ?_) fun hf => T.ck (by omega) (hL _ ⟨by omega, by omega, ?_⟩ (by omega)))
      · rw [h4, hf]; simpa using h1
      · rw [h4, hf]; rfl
    · have hb := of_decide_eq_false hb
      rw [List.drop_eq_nil_of_le (by omega)] at h4
      rw [h4]; rfl
  unfold slices_ContainsFunc_Lstring_string
  refine T.cal (Q := fun r => r = l.any (fun s => decide (fnd m.names s < 0))) (T.cal key fun r _ hr => T.some hr) fun r _ hr => T.some (by rw [hr])
/-! ### By depth -/
def DepS (U : Gr) (f : Gr → Int → List Bool → Option (List Bool)) (n : Nat) : Prop := ∀ (i : Int) s, 0 ≤ i → i < U.length → s.length = U.length → cf s < n → T (fun r => Dep U i s r ∧ ∀ j, Ed U i j → On r j) (f U i s)
theorem dep_step {U f n} (g : GOk U) (ih : DepS U f n) : DepS U (refs_reaches_F f) (n + 1) := by
  intro i s hi0 hi hs hcf
  unfold refs_reaches_F
  refine T.get hi0 hi fun l hl => ?_
  have hgl := g.len
  obtain ⟨hll, hlr⟩ := g.ok l (List.mem_of_getElem? hl)
  have hed : ∀ j, Ed U i j ↔ j ∈ l := fun j => ⟨fun ⟨_, l', h1, h2⟩ => by rw [hl] at h1; cases h1; exact h2, fun h => ⟨hi0, l, hl, h⟩⟩
  refine T.lp (fun (q : List Bool × Int) => 0 ≤ q.2 ∧ q.2 ≤ (l.length : Int) ∧ Dep U i s q.1 ∧ ∀ j ∈ l, j ∈ l.drop q.2.toNat ∨ On q.1 j) (fun (q : List Bool × Int) => ((l.length : Int) - q.2).toNat) ⟨Int.le_refl _, by dsimp only; omega, ⟨rfl, fun _ h => h, fun _ h => .inl h, Nat.le_refl _⟩, fun j hj => .inl hj⟩ (by dsimp only; omega) fun L q ⟨h1, h2, h3, h4⟩ hL => ?_
  obtain ⟨s1, k⟩ := q
  dsimp only at h1 h2 h3 h4 ⊢
  refine T.br (fun hb => ?_) fun hb => T.some ⟨h3, fun j hj => ?_⟩
  · have hb := of_decide_eq_true hb
    refine T.jp (fun s2 => Dep U i s s2 ∧ ∀ j ∈ l, j ∈ l.drop (k + 1).toNat ∨ On s2 j) (fun J kk => T.get h1 hb fun y hy => ?_) fun s2 ⟨hs2, hj2⟩ => T.ck (by omega) (hL _ ⟨by dsimp only; omega, by dsimp only; omega, hs2, hj2⟩ (by dsimp only; omega))
    have hyl := List.mem_of_getElem? hy
    obtain ⟨hy0, hy1⟩ := hlr y hyl
    have hlen := h3.len
    rw [drop_cons h1 hy] at h4
    refine T.asd (by omega) ?_
    have hget : ∃ b, s1[y.toNat]? = some b := ⟨_, List.getElem?_eq_getElem (by omega)⟩
    obtain ⟨b, hbq⟩ := hget
    refine T.eq hbq (T.br (fun hnb => T.asd (by omega) (T.eq hbq ?_)) fun hnb => kk _ ⟨h3, fun j hj => ?_⟩)
    · have hbf : b = false := by simpa using hnb
      subst hbf
      have hcs := cf_set hbq
      have hcf3 := h3.cf
      refine T.cal (ih y (s1.set y.toNat true) hy0 hy1 (by rw [List.length_set]; omega) (by omega)) fun r _ ⟨hr, hre⟩ => T.asd (by rw [hr.len, List.length_set]) (kk _ ⟨⟨?_, fun v hv => ?_, fun v hv => ?_, ?_⟩, fun j hj => ?_⟩)
      · rw [hr.len, List.length_set]; exact hlen
      · exact hr.mono v ((On.set hy0 (by omega)).2 (.inl (h3.mono v hv)))
      · rcases hr.new v hv with h5 | ⟨h5, h6⟩
        · rcases (On.set hy0 (by omega)).1 h5 with h7 | h7
          · rcases h3.new v h7 with h8 | ⟨h8, h9⟩
            · exact .inl h8
            · exact .inr ⟨h8, fun j hj => hr.mono j ((On.set hy0 (by omega)).2 (.inl (h9 j hj)))⟩
          · subst h7
            exact .inr ⟨.one ((hed _).2 hyl), hre⟩
        · exact .inr ⟨(Reach.one ((hed _).2 hyl)).trans h5, h6⟩
      · have := hr.cf
        omega
      · rcases h4 j hj with h5 | h5
        · rcases List.mem_cons.1 h5 with h6 | h6
          · subst h6
            exact .inr (hr.mono _ ((On.set hy0 (by omega)).2 (.inr rfl)))
          · exact .inl h6
        · exact .inr (hr.mono _ ((On.set hy0 (by omega)).2 (.inl h5)))
    · have hbt : b = true := by simpa using hnb
      subst hbt
      rcases h4 j hj with h5 | h5
      · rcases List.mem_cons.1 h5 with h6 | h6
        · subst h6
          exact .inr ⟨hy0, hbq⟩
        · exact .inl h6
      · exact .inr h5
  · have hb := of_decide_eq_false hb
    rcases h4 j ((hed j).1 hj) with h5 | h5
    · rw [List.drop_eq_nil_of_le (by omega)] at h5; cases h5
    · exact h5
theorem dep_all {U} (g : GOk U) : ∀ n, DepS U (refs_reaches n) n := by
  intro n
  induction n with
  | zero => intro i s _ _ _ h; omega
  | succ n ih => exact dep_step g ih
theorem reaches_tot {U} (g : GOk U) {i : Int} (hi : 0 ≤ i) (hi1 : i < U.length) (n : Nat) (hn : n = U.length) : T (fun r => r.length = n ∧ (On r i ↔ Reach U i i)) (refs_reaches fuel U i (List.replicate n false)) := by
  have hgl := g.len
  subst hn
  have hc := cf_le (List.replicate U.length false)
  rw [List.length_replicate] at hc
  refine (dep_all g fuel i _ hi hi1 (List.length_replicate) (by unfold fuel; omega)).mono fun r ⟨h1, h2⟩ => ⟨by rw [h1.len, List.length_replicate], fun h => ?_, fun h => ?_⟩
  · rcases h1.new i h with h3 | h3
    · exact absurd h3 on_rep
    · exact h3.1
  · have key : ∀ a b, Reach U a b → a = i → On r b := by
      intro a b hab
      induction hab with
      | one e => intro ea; subst ea; exact h2 _ e
      | tail _ e ih =>
        intro ea
        rcases h1.new _ (ih ea) with h3 | h3
        · exact absurd h3 on_rep
        · exact h3.2 _ e
    exact key _ _ h rfl

/-! ### What is wrong first -/
open Classical in
theorem of_eq {m : GMod} {i : Int} {t : Int} (h : 0 ≤ i) (ht : m.types[i.toNat]? = some t) : refs_of m i = some t := by
  have hlt : i.toNat < m.types.length := by
    rcases Nat.lt_or_ge i.toNat m.types.length with h1 | h1
    · exact h1
    · rw [List.getElem?_eq_none h1] at ht; cases ht
  refine T.eqs ?_
  unfold refs_of
  refine T.br (fun hb => by have := of_decide_eq_true hb; omega) fun hb => T.get h (by omega) fun y hy => T.some ?_
  rw [ht] at hy; cases hy; rfl
theorem wrong_tot {m : GMod} (w : WF m) : refs_wrong m (gr m) = some (wr m) := by
  have hn := w.names
  have ht := w.types
  have hgl := gr_len w
  refine T.eqs ?_
  unfold refs_wrong
  refine T.lp (fun (k : Int) => At (twice m) m.names.length k) (fun (k : Int) => ((m.names.length : Int) - k).toNat) (At.zero _ _) (by omega) fun L k hk hL => ?_
  have hk0 := hk.1
  refine T.br (fun hb => ?_) fun hb => ?_
  · have hb := of_decide_eq_true hb
    refine T.get hk0 hb fun s hs => T.eq (find_eq m s (by omega)) ?_
    have e : twice m k = decide (fnd m.names s < k) := by unfold twice; rw [hs]
    refine T.br (fun h => T.some ?_) fun h => T.ck (by omega) (hL _ (hk.next hb (by rw [e]; exact h)) (by omega))
    unfold wr; rw [hk.hit hb (by rw [e]; exact h)]
  have m1 := hk.miss (of_decide_eq_false hb)
  refine T.lp (fun (k : Int) => At (none_ m) m.names.length k) (fun (k : Int) => ((m.names.length : Int) - k).toNat) (At.zero _ _) (by omega) fun L k hk hL => ?_
  have hk0 := hk.1
  refine T.br (fun hb => ?_) fun hb => ?_
  · have hb := of_decide_eq_true hb
    obtain ⟨t, htt⟩ : ∃ t, m.types[k.toNat]? = some t := ⟨_, List.getElem?_eq_getElem (by omega)⟩
    refine T.eq (of_eq hk0 htt) (T.eq (lost_eq w t) ?_)
    have e : none_ m k = lost m t := by unfold none_; rw [htt]
    refine T.br (fun h => T.some ?_) fun h => T.ck (by omega) (hL _ (hk.next hb (by rw [e]; exact h)) (by omega))
    unfold wr; rw [m1, hk.hit hb (by rw [e]; exact h)]
  have m2 := hk.miss (of_decide_eq_false hb)
  refine T.lp (fun (k : Int) => At (cycle m) m.names.length k) (fun (k : Int) => ((m.names.length : Int) - k).toNat) (At.zero _ _) (by omega) fun L k hk hL => ?_
  have hk0 := hk.1
  refine T.br (fun hb => ?_) fun hb => T.some ?_
  · have hb := of_decide_eq_true hb
    have en : ((m.names.length : Int)).toNat = m.names.length := by omega
    refine T.asd (by omega) (T.cal (reaches_tot (gr_ok w) hk0 (by omega) _ (by omega)) fun r _ ⟨r1, r2⟩ => T.asd (by rw [List.length_replicate]; exact r1) (T.asd (by omega) ?_))
    obtain ⟨b, hbq⟩ : ∃ b, r[k.toNat]? = some b := ⟨_, List.getElem?_eq_getElem (by omega)⟩
    have e : cycle m k = b := cycle_of (by
      rw [← r2]
      unfold On
      rw [hbq]
      exact ⟨fun h => ⟨hk0, by rw [h]⟩, fun h => Option.some.inj h.2⟩)
    refine T.eq hbq (T.br (fun h => T.some ?_) fun h => T.ck (by omega) (hL _ (hk.next hb (by rw [e]; exact h)) (by omega)))
    unfold wr; rw [m1, m2, hk.hit hb (by rw [e]; exact h)]
  · unfold wr; rw [m1, m2, hk.miss (of_decide_eq_false hb)]
/-! ### The program's order -/
theorem index_int_tot (l : List Int) (v : Int) (hl : l.length ≤ 1000000) : T (fun r => decide ((0 : Int) ≤ r) = decide (v ∈ l)) (slices_Index_Lint_int l v) := by
  unfold slices_Index_Lint_int
  refine T.lp (fun (k : Int) => 0 ≤ k ∧ k ≤ (l.length : Int) ∧ (v ∈ l ↔ v ∈ l.drop k.toNat)) (fun (k : Int) => ((l.length : Int) - k).toNat) ⟨Int.le_refl _, by omega, Iff.rfl⟩ (by omega) fun L k ⟨h1, h2, h3⟩ hL => ?_
  refine T.br (fun hb => ?_) fun hb => T.some ?_
  · have hb := of_decide_eq_true hb
    refine T.get h1 hb fun y hy => ?_
    rw [drop_cons h1 hy, List.mem_cons] at h3
    refine T.br (fun he => T.some ?_) fun he => T.ck (by omega) (hL _ ⟨by omega, by omega, ?_⟩ (by omega))
    · rw [decide_eq_true h1, decide_eq_true (h3.2 (.inl (of_decide_eq_true he)))]
    · rw [h3]
      exact ⟨fun h => h.elim (fun e => absurd e (of_decide_eq_false he)) fun h => h, .inr⟩
  · have hb := of_decide_eq_false hb
    rw [List.drop_eq_nil_of_le (by omega)] at h3
    rw [decide_eq_false (show ¬ v ∈ l from fun h => by cases h3.1 h)]
    rfl
theorem contains_int_eq (l : List Int) (v : Int) (hl : l.length ≤ 1000000) : slices_Contains_Lint_int l v = some (decide (v ∈ l)) := by
  refine T.eqs ?_
  unfold slices_Contains_Lint_int
  exact T.cal (index_int_tot l v hl) fun r _ hr => T.some hr
theorem containsF_int_eq (l out : List Int) (hl : l.length ≤ 1000000) (ho : out.length ≤ 1000000) : slices_ContainsFunc_Lint_int l out = some (!l.all (fun j => decide (j ∈ out)), out) := by
  have key : T (fun r => r.2 = out ∧ decide ((0 : Int) ≤ r.1) = !l.all (fun j => decide (j ∈ out))) (slices_IndexFunc_Lint_int l out) := by
    unfold slices_IndexFunc_Lint_int
    refine T.lp (fun (q : Int × List Int) => 0 ≤ q.1 ∧ q.1 ≤ (l.length : Int) ∧ q.2 = out ∧ l.all (fun j => decide (j ∈ out)) = (l.drop q.1.toNat).all (fun j => decide (j ∈ out))) (fun (q : Int × List Int) => ((l.length : Int) - q.1).toNat) ⟨Int.le_refl _, by dsimp only; omega, rfl, rfl⟩ (by dsimp only; omega) fun L q ⟨h1, h2, h3, h4⟩ hL => ?_
    obtain ⟨k, o⟩ := q
    dsimp only at h1 h2 h3 h4 ⊢
    subst h3
    refine T.br (fun hb => ?_) fun hb => T.some ⟨rfl, ?_⟩
    · have hb := of_decide_eq_true hb
      refine T.get h1 hb fun y hy => ?_
      rw [drop_cons h1 hy, List.all_cons] at h4
      refine T.eq (y := (!decide (y ∈ o), o)) (T.eqs (by unfold refs_Order_c1; exact T.eq (contains_int_eq _ _ (by omega)) (T.some rfl))) (T.br (fun hf => T.some ⟨rfl, ?_⟩) fun hf => T.ck (by omega) (hL _ ⟨by dsimp only; omega, by dsimp only; omega, rfl, ?_⟩ (by dsimp only; omega)))
      · have hf' : decide (y ∈ o) = false := by simpa using hf
        dsimp only
        rw [h4, hf', decide_eq_true h1]; rfl
      · have hf' : decide (y ∈ o) = true := by simpa using hf
        dsimp only
        rw [h4, hf', Bool.true_and]
    · have hb := of_decide_eq_false hb
      rw [List.drop_eq_nil_of_le (by omega)] at h4
      rw [h4]; rfl
  refine T.eqs ?_
  unfold slices_ContainsFunc_Lint_int
  exact T.cal key fun r _ hr => T.some (by rw [hr.1, hr.2])
theorem order_eq {m : GMod} (w : WF m) : refs_Order m = some (ordr m) := by
  have hn := w.names
  have ht := w.types
  have hgl := gr_len w
  have hgo := gr_ok w
  refine T.eqs ?_
  unfold refs_Order
  refine T.lp (fun (q : List (List Int) × Int) => 0 ≤ q.2 ∧ q.2 ≤ (m.names.length : Int) ∧ (q.1.length : Int) = q.2 ∧ q.1 ++ (m.types.drop q.2.toNat).map (uses m) = gr m) (fun (q : List (List Int) × Int) => ((m.names.length : Int) - q.2).toNat) ⟨Int.le_refl _, by dsimp only; omega, rfl, rfl⟩ (by dsimp only; omega) fun L q ⟨h1, h2, h3, h4⟩ hL => ?_
  obtain ⟨U, k⟩ := q
  dsimp only at h1 h2 h3 h4 ⊢
  refine T.br (fun hb => ?_) fun hb => ?_
  · have hb := of_decide_eq_true hb
    obtain ⟨t, htt⟩ : ∃ t, m.types[k.toNat]? = some t := ⟨_, List.getElem?_eq_getElem (by omega)⟩
    rw [drop_cons h1 htt, List.map_cons] at h4
    refine T.eq (of_eq h1 htt) (T.eq (uses_eq w t) (T.abl (by simp only [List.length_singleton]; omega) (T.ck (by omega) (hL _ ⟨by dsimp only; omega, by dsimp only; omega, by dsimp only; rw [List.length_append, List.length_singleton]; omega, ?_⟩ (by dsimp only; omega)))))
    dsimp only
    rw [← h4]; simp
  have hb := of_decide_eq_false hb
  rw [List.drop_eq_nil_of_le (by omega), List.map_nil, List.append_nil] at h4
  subst h4
  refine T.eq (wrong_tot w) (T.br (fun he => T.some ?_) fun he => ?_)
  · unfold ordr; rw [if_neg (by simpa using he)]
  have he : (wr m).2 = 0 := by simpa using he
  refine T.lp (fun (out : List Int) => Tp m out) (fun (out : List Int) => m.names.length - out.length) (Tp.nil m) (by omega) fun L out ho hL => ?_
  have hol := ho.1
  refine T.br (fun hb => ?_) fun hb => T.some ?_
  · have hb := of_decide_eq_true hb
    have hlt : out.length < m.names.length := by omega
    refine T.lp (fun (q : Int × List Int) => At (rdy (gr m) out) (gr m).length q.1 ∧ q.2 = out) (fun (q : Int × List Int) => ((m.names.length : Int) - q.1).toNat) ⟨At.zero _ _, rfl⟩ (by dsimp only; omega) fun L2 q ⟨hk, hq⟩ hL2 => ?_
    obtain ⟨k, o⟩ := q
    dsimp only at hk hq ⊢
    subst hq
    have hk0 := hk.1
    refine T.br (fun hb2 => ?_) fun hb2 => ?_
    · have hb2 := of_decide_eq_true hb2
      refine T.eq (contains_int_eq o k (by omega)) (T.jp (fun (q : Bool × List Int) => q.1 = rdy (gr m) o k ∧ q.2 = o) (fun J kk => T.br (fun hin => T.get hk0 (by omega) fun l hl => ?_) fun hin => kk _ ⟨?_, rfl⟩) fun q ⟨hq1, hq2⟩ => ?_)
      · have := (hgo.ok l (List.mem_of_getElem? hl)).1
        refine T.eq (containsF_int_eq l o (by omega) (by omega)) (kk _ ⟨?_, rfl⟩)
        have hin : k ∉ o := by simpa using hin
        unfold rdy
        dsimp only
        rw [hl, decide_eq_true hin]
        simp
      · have hin : k ∈ o := by simpa using hin
        unfold rdy
        dsimp only
        rw [decide_eq_false (fun h => h hin)]; rfl
      · obtain ⟨b, o2⟩ := q
        dsimp only at hq1 hq2 ⊢
        subst hq2
        refine T.br (fun hr => T.abl (by simp only [List.length_singleton]; omega) (hL _ (ho.next hlt (hk.hit (by omega) (by rw [← hq1]; exact hr))) (by rw [List.length_append, List.length_singleton]; omega))) fun hr => T.ck (by omega) (hL2 _ ⟨hk.next (by omega) (by rw [← hq1]; exact hr), rfl⟩ (by dsimp only; omega))
    · have hb2 := of_decide_eq_false hb2
      exact absurd (hk.miss (by omega)) (first_rdy w he hlt)
  · unfold ordr; rw [if_pos he, ho.done (of_decide_eq_false hb)]

end Go.Proofs.YtiibmpdjkdjbiaaGreatDoor


namespace Go.Proofs.YtiibmpdjkdjbiaaGreatDoor
open Go.Sy
set_option maxRecDepth 4000
def table_Find (a_t : GTab) (a_name : Str) : Option (Int) :=
  cal (slices_Index_Lstring_string a_t.names a_name) fun y1 => jp (ι := Bool) (fun J3 => br (decide (y1 < (0 : Int))) (J3 (true)) (J3 ((decide ((a_t.roots.length : Int) ≤ y1))))) (fun q2 => br q2 (some ((-1 : Int))) (cal (getI a_t.roots y1) fun y5 => some (y5)))

def law10_awake  : Option (Bool) :=
  cal (r05_Parse (Str.mk [77, 32, 68, 69, 70, 73, 78, 73, 84, 73, 79, 78, 83, 32, 58, 58, 61, 32, 66, 69, 71, 73, 78, 32, 65, 32, 58, 58, 61, 32, 83, 69, 81, 85, 69, 78, 67, 69, 32, 123, 32, 120, 32, 73, 78, 84, 69, 71, 69, 82, 32, 40, 48, 46, 46, 55, 41, 44, 32, 46, 46, 46, 32, 125, 32, 69, 78, 68])) fun y1 => cal (table_Make y1.1) fun y3 => jp (ι := Bool) (fun J6 => br (decide (y3.2.2 = (0 : Int))) (J6 ((decide ((y3.1.types.length : Int) = (2 : Int))))) (J6 (false))) (fun q5 => jp (ι := Bool) (fun J9 => br q5 (cal (table_Find y3.1 (Str.mk [65])) fun y11 => J9 ((decide (y11 = (0 : Int))))) (J9 (false))) (fun q8 => jp (ι := Bool) (fun J13 => br q8 (cal (getI y3.1.types (1 : Int)) fun y15 => J13 ((decide ((y15.tags.length : Int) = (1 : Int))))) (J13 (false))) (fun q12 => some (q12))))
end Go.Proofs.YtiibmpdjkdjbiaaGreatDoor


namespace Go.Proofs.YtiibmpdjkdjbiaaGreatDoor
open Go.Sy
set_option maxRecDepth 4000
def h_Plain_api_Tag_c1 (a_x : Tag) (a_y : Tag) : Option (Bool) :=
  some ((decide (a_x = a_y)))

def h_Same_api_Tag (a_a : (List Tag)) (a_b : (List Tag)) : Option (Bool) :=
  br (!decide ((a_a.length : Int) = (a_b.length : Int))) (some (false)) (lp (ι := Int) (fun L2 q1 => br (decide (q1 < (a_a.length : Int))) (cal (getI a_a q1) fun y7 => cal (getI a_b q1) fun y8 => cal (h_Plain_api_Tag_c1 y7 y8) fun y9 => br (!y9) (some (false)) (ck ((q1 + (1 : Int))) <| L2 ((q1 + (1 : Int))))) (some (true))) (((0 : Int))))

def h_Plain_api_Tag (a_a : (List Tag)) (a_b : (List Tag)) : Option (Bool) :=
  cal (h_Same_api_Tag a_a a_b) fun y1 => some (y1)

def h_Plain_api_Item_c1 (a_x : GItem) (a_y : GItem) : Option (Bool) :=
  some ((decide (a_x = a_y)))

def h_Same_api_Item (a_a : (List GItem)) (a_b : (List GItem)) : Option (Bool) :=
  br (!decide ((a_a.length : Int) = (a_b.length : Int))) (some (false)) (lp (ι := Int) (fun L2 q1 => br (decide (q1 < (a_a.length : Int))) (cal (getI a_a q1) fun y7 => cal (getI a_b q1) fun y8 => cal (h_Plain_api_Item_c1 y7 y8) fun y9 => br (!y9) (some (false)) (ck ((q1 + (1 : Int))) <| L2 ((q1 + (1 : Int))))) (some (true))) (((0 : Int))))

def h_Plain_api_Item (a_a : (List GItem)) (a_b : (List GItem)) : Option (Bool) :=
  cal (h_Same_api_Item a_a a_b) fun y1 => some (y1)
end Go.Proofs.YtiibmpdjkdjbiaaGreatDoor


namespace Go.Proofs.YtiibmpdjkdjbiaaGreatDoor
open Go.Sy
set_option maxRecDepth 4000
end Go.Proofs.YtiibmpdjkdjbiaaGreatDoor


namespace Go.Proofs.YtiibmpdjkdjbiaaGreatDoor
open Go.Sy
set_option maxRecDepth 4000
def h_Plain_string_c1 (a_x : Str) (a_y : Str) : Option (Bool) :=
  some ((decide (a_x = a_y)))

def h_Same_string (a_a : (List Str)) (a_b : (List Str)) : Option (Bool) :=
  br (!decide ((a_a.length : Int) = (a_b.length : Int))) (some (false)) (lp (ι := Int) (fun L2 q1 => br (decide (q1 < (a_a.length : Int))) (cal (getI a_a q1) fun y7 => cal (getI a_b q1) fun y8 => cal (h_Plain_string_c1 y7 y8) fun y9 => br (!y9) (some (false)) (ck ((q1 + (1 : Int))) <| L2 ((q1 + (1 : Int))))) (some (true))) (((0 : Int))))

def h_Plain_string (a_a : (List Str)) (a_b : (List Str)) : Option (Bool) :=
  cal (h_Same_string a_a a_b) fun y1 => some (y1)

def h_Plain_int_c1 (a_x : Int) (a_y : Int) : Option (Bool) :=
  some ((decide (a_x = a_y)))

def h_Same_int (a_a : (List Int)) (a_b : (List Int)) : Option (Bool) :=
  br (!decide ((a_a.length : Int) = (a_b.length : Int))) (some (false)) (lp (ι := Int) (fun L2 q1 => br (decide (q1 < (a_a.length : Int))) (cal (getI a_a q1) fun y7 => cal (getI a_b q1) fun y8 => cal (h_Plain_int_c1 y7 y8) fun y9 => br (!y9) (some (false)) (ck ((q1 + (1 : Int))) <| L2 ((q1 + (1 : Int))))) (some (true))) (((0 : Int))))

def h_Plain_int (a_a : (List Int)) (a_b : (List Int)) : Option (Bool) :=
  cal (h_Same_int a_a a_b) fun y1 => some (y1)

def h_Bytes (a_a : (List UInt8)) (a_b : (List UInt8)) : Option (Bool) :=
  some ((decide ((Str.mk a_a) = (Str.mk a_b))))

def h_Raw (a_a : Raw) (a_b : Raw) : Option (Bool) :=
  jp (ι := Bool) (fun J2 => br (decide (a_a.n = a_b.n)) (cal (h_Bytes a_a.b a_b.b) fun y4 => J2 (y4)) (J2 (false))) (fun q1 => some (q1))

def h_Same_api_Raw (a_a : (List Raw)) (a_b : (List Raw)) : Option (Bool) :=
  br (!decide ((a_a.length : Int) = (a_b.length : Int))) (some (false)) (lp (ι := Int) (fun L2 q1 => br (decide (q1 < (a_a.length : Int))) (cal (getI a_a q1) fun y7 => cal (getI a_b q1) fun y8 => cal (h_Raw y7 y8) fun y9 => br (!y9) (some (false)) (ck ((q1 + (1 : Int))) <| L2 ((q1 + (1 : Int))))) (some (true))) (((0 : Int))))

def h_Same_api_Value_F (h_Same_api_Value' : (List Val) → (List Val) → Option (Bool)) (h_Value' : Val → Val → Option (Bool)) (a_a : (List Val)) (a_b : (List Val)) : Option (Bool) :=
  br (!decide ((a_a.length : Int) = (a_b.length : Int))) (some (false)) (lp (ι := Int) (fun L2 q1 => br (decide (q1 < (a_a.length : Int))) (cal (getI a_a q1) fun y7 => cal (getI a_b q1) fun y8 => cal (h_Value' y7 y8) fun y9 => br (!y9) (some (false)) (ck ((q1 + (1 : Int))) <| L2 ((q1 + (1 : Int))))) (some (true))) (((0 : Int))))
def h_Value_F (h_Same_api_Value' : (List Val) → (List Val) → Option (Bool)) (h_Value' : Val → Val → Option (Bool)) (a_a : Val) (a_b : Val) : Option (Bool) :=
  jp (ι := Bool) (fun J2 => br (decide (a_a.kind = a_b.kind)) (J2 ((decide (a_a.n = a_b.n)))) (J2 (false))) (fun q1 => jp (ι := Bool) (fun J5 => br q1 (cal (h_Bytes a_a.b a_b.b) fun y7 => J5 (y7)) (J5 (false))) (fun q4 => jp (ι := Bool) (fun J9 => br q4 (cal (h_Same_api_Value' a_a.l a_b.l) fun y11 => J9 (y11)) (J9 (false))) (fun q8 => jp (ι := Bool) (fun J13 => br q8 (J13 ((decide (a_a.rule = a_b.rule)))) (J13 (false))) (fun q12 => jp (ι := Bool) (fun J16 => br q12 (cal (h_Same_api_Raw a_a.more a_b.more) fun y18 => J16 (y18)) (J16 (false))) (fun q15 => some (q15))))))
def h_Same_api_Value_grp : Nat → ((List Val) → (List Val) → Option (Bool)) × (Val → Val → Option (Bool))
  | 0 => (fun _ _ => none, fun _ _ => none)
  | n + 1 => let p := h_Same_api_Value_grp n; (h_Same_api_Value_F p.1 p.2, h_Value_F p.1 p.2)
def h_Same_api_Value (n : Nat) : (List Val) → (List Val) → Option (Bool) := (h_Same_api_Value_grp n).1
def h_Value (n : Nat) : Val → Val → Option (Bool) := (h_Same_api_Value_grp n).2

def h_Field (a_a : GFld) (a_b : GFld) : Option (Bool) :=
  jp (ι := Bool) (fun J2 => br (decide (a_a.name = a_b.name)) (J2 ((decide (a_a.ty = a_b.ty)))) (J2 (false))) (fun q1 => jp (ι := Bool) (fun J5 => br q1 (J5 ((decide (a_a.optional = a_b.optional)))) (J5 (false))) (fun q4 => jp (ι := Bool) (fun J8 => br q4 (J8 ((decide (a_a.has = a_b.has)))) (J8 (false))) (fun q7 => jp (ι := Bool) (fun J11 => br q7 (cal (h_Value fuel a_a.dflt a_b.dflt) fun y13 => J11 (y13)) (J11 (false))) (fun q10 => jp (ι := Bool) (fun J15 => br q10 (J15 ((decide (a_a.group = a_b.group)))) (J15 (false))) (fun q14 => some (q14))))))

def h_Same_api_Field (a_a : (List GFld)) (a_b : (List GFld)) : Option (Bool) :=
  br (!decide ((a_a.length : Int) = (a_b.length : Int))) (some (false)) (lp (ι := Int) (fun L2 q1 => br (decide (q1 < (a_a.length : Int))) (cal (getI a_a q1) fun y7 => cal (getI a_b q1) fun y8 => cal (h_Field y7 y8) fun y9 => br (!y9) (some (false)) (ck ((q1 + (1 : Int))) <| L2 ((q1 + (1 : Int))))) (some (true))) (((0 : Int))))

def h_Type (a_a : GTyp) (a_b : GTyp) : Option (Bool) :=
  jp (ι := Bool) (fun J2 => br (decide (a_a.kind = a_b.kind)) (cal (h_Plain_api_Tag a_a.tags a_b.tags) fun y4 => J2 (y4)) (J2 (false))) (fun q1 => jp (ι := Bool) (fun J6 => br q1 (J6 ((decide (a_a.con = a_b.con)))) (J6 (false))) (fun q5 => jp (ι := Bool) (fun J9 => br q5 (cal (h_Plain_api_Item a_a.items a_b.items) fun y11 => J9 (y11)) (J9 (false))) (fun q8 => jp (ι := Bool) (fun J13 => br q8 (cal (h_Same_api_Field a_a.fields a_b.fields) fun y15 => J13 (y15)) (J13 (false))) (fun q12 => jp (ι := Bool) (fun J17 => br q12 (J17 ((decide (a_a.root = a_b.root)))) (J17 (false))) (fun q16 => jp (ι := Bool) (fun J20 => br q16 (J20 ((decide (a_a.more = a_b.more)))) (J20 (false))) (fun q19 => jp (ι := Bool) (fun J23 => br q19 (J23 ((decide (a_a.of = a_b.of)))) (J23 (false))) (fun q22 => some (q22))))))))

def h_Same_api_Type (a_a : (List GTyp)) (a_b : (List GTyp)) : Option (Bool) :=
  br (!decide ((a_a.length : Int) = (a_b.length : Int))) (some (false)) (lp (ι := Int) (fun L2 q1 => br (decide (q1 < (a_a.length : Int))) (cal (getI a_a q1) fun y7 => cal (getI a_b q1) fun y8 => cal (h_Type y7 y8) fun y9 => br (!y9) (some (false)) (ck ((q1 + (1 : Int))) <| L2 ((q1 + (1 : Int))))) (some (true))) (((0 : Int))))

def h_Table (a_a : GTab) (a_b : GTab) : Option (Bool) :=
  jp (ι := Bool) (fun J2 => br (decide (a_a.name = a_b.name)) (cal (h_Plain_string a_a.names a_b.names) fun y4 => J2 (y4)) (J2 (false))) (fun q1 => jp (ι := Bool) (fun J6 => br q1 (cal (h_Plain_int a_a.roots a_b.roots) fun y8 => J6 (y8)) (J6 (false))) (fun q5 => jp (ι := Bool) (fun J10 => br q5 (cal (h_Same_api_Type a_a.types a_b.types) fun y12 => J10 (y12)) (J10 (false))) (fun q9 => some (q9))))

def r10_begins_F (r10_begins' : (List GTyp) → Int → Option ((List Tag))) (a_l : (List GTyp)) (a_i : Int) : Option ((List Tag)) :=
  cal (getI a_l a_i) fun y1 => br (decide ((0 : Int) < (y1.tags.length : Int))) (cal (getI a_l a_i) fun y2 => asr (decide (0 ≤ (0 : Int) ∧ (0 : Int) ≤ (1 : Int) ∧ (1 : Int) ≤ (y2.tags.length : Int))) <| some (((y2.tags.take ((1 : Int)).toNat).drop (0 : Int).toNat))) (lp (ι := (List Tag) × Int) (fun L5 q4 => cal (getI a_l a_i) fun y13 => br (decide (q4.2 < (y13.fields.length : Int))) (cal (getI a_l a_i) fun y14 => cal (getI y14.fields q4.2) fun y15 => cal (r10_begins' a_l y15.ty) fun y16 => asr (Nat.ble (q4.1.length + y16.length) 68719476736) <| ck ((q4.2 + (1 : Int))) <| L5 ((q4.1 ++ y16), (q4.2 + (1 : Int)))) (some (q4.1))) ((([] : (List Tag)), (0 : Int))))
def r10_begins_grp : Nat → ((List GTyp) → Int → Option ((List Tag)))
  | 0 => (fun _ _ => none)
  | n + 1 => let p := r10_begins_grp n; (r10_begins_F p)
def r10_begins (n : Nat) : (List GTyp) → Int → Option ((List Tag)) := (r10_begins_grp n)

def r10_Begins (a_t : GTab) (a_i : Int) : Option ((List Tag)) :=
  jp (ι := Bool) (fun J2 => br (decide (a_i < (0 : Int))) (J2 (true)) (J2 ((decide ((a_t.types.length : Int) ≤ a_i))))) (fun q1 => br q1 (some (([] : (List Tag)))) (cal (r10_begins fuel a_t.types a_i) fun y4 => asr (Nat.ble (([] : (List Tag)).length + y4.length) 68719476736) <| some ((([] : (List Tag)) ++ y4))))

def h_In_api_Tag (a_l : (List Tag)) (a_x : Tag) : Option (Bool) :=
  lp (ι := Int) (fun L2 q1 => br (decide (q1 < (a_l.length : Int))) (cal (getI a_l q1) fun y5 => br (decide (y5 = a_x)) (some (true)) (ck ((q1 + (1 : Int))) <| L2 ((q1 + (1 : Int))))) (some (false))) (((0 : Int)))

def r09_Distinct (a_sets : (List (List Tag))) : Option (Bool) :=
  lp (ι := (List Tag) × Int) (fun L2 q1 => br (decide (q1.2 < (a_sets.length : Int))) (lp (ι := (List Tag) × Int) (fun L30 q29 => cal (getI a_sets q1.2) fun y42 => br (decide (q29.2 < (y42.length : Int))) (cal (getI a_sets q1.2) fun y43 => cal (getI y43 q29.2) fun y44 => cal (h_In_api_Tag q29.1 y44) fun y45 => br y45 (some (false)) (cal (getI a_sets q1.2) fun y46 => cal (getI y46 q29.2) fun y47 => asr (Nat.ble (q29.1.length + ([y47] : (List Tag)).length) 68719476736) <| ck ((q29.2 + (1 : Int))) <| L30 ((q29.1 ++ ([y47] : (List Tag))), (q29.2 + (1 : Int))))) (ck ((q1.2 + (1 : Int))) <| L2 (q29.1, (q1.2 + (1 : Int))))) ((q1.1, (0 : Int)))) (some (true))) ((([] : (List Tag)), (0 : Int)))

def law10_TableSound (a_text : Str) : Option (Bool) :=
  cal (r05_Parse a_text) fun y1 => jp (ι := Bool) (fun J4 => br (decide ((5000 : Int) < (a_text.b.length : Int))) (J4 (true)) (J4 ((!decide (y1.2.2 = (0 : Int)))))) (fun q3 => br q3 (cal (law10_awake ) fun y6 => some (y6)) (cal (table_Make y1.1) fun y7 => cal (law10_awake ) fun y9 => jp (ι := Bool) (fun J11 => br (!y9) (J11 (true)) (J11 ((!decide (y7.2.2 = (0 : Int)))))) (fun q10 => br q10 (cal (law10_awake ) fun y13 => jp (ι := Bool) (fun J15 => br y13 (cal (h_Table y7.1 (GTab.mk (Str.mk []) ([] : (List Str)) ([] : (List Int)) ([] : (List GTyp)))) fun y17 => J15 (y17)) (J15 (false))) (fun q14 => some (q14))) (jp (ι := Bool) (fun J19 => br (decide ((300 : Int) < (y7.1.types.length : Int))) (J19 (true)) (J19 ((!decide ((y7.1.roots.length : Int) = (y7.1.names.length : Int)))))) (fun q18 => br q18 (some (false)) (lp (ι := Int) (fun L22 q21 => br (decide (q21 < (y7.1.types.length : Int))) (cal (getI y7.1.types q21) fun y103 => jp (ι := Bool) (fun J106 => br (decide (y103.kind < (1 : Int))) (J106 (true)) (J106 ((decide ((10 : Int) < y103.kind))))) (fun q105 => jp (ι := Bool) (fun J109 => br q105 (J109 (true)) (jp (ι := Bool) (fun J112 => br (!decide (y103.kind = (9 : Int))) (J112 ((decide ((y103.tags.length : Int) = (0 : Int))))) (J112 (false))) (fun q111 => J109 (q111)))) (fun q108 => jp (ι := Bool) (fun J115 => br q108 (J115 (true)) (jp (ι := Bool) (fun J118 => br (decide (y103.kind = (10 : Int))) (jp (ι := Bool) (fun J121 => br (decide (y103.of ≤ q21)) (J121 (true)) (J121 ((decide ((y7.1.types.length : Int) ≤ y103.of))))) (fun q120 => J118 (q120))) (J118 (false))) (fun q117 => J115 (q117)))) (fun q114 => br q114 (some (false)) (lp (ι := (List (List Tag)) × Int) (fun L124 q123 => br (decide (q123.2 < (y103.fields.length : Int))) (cal (getI y103.fields q123.2) fun y153 => jp (ι := Bool) (fun J156 => br (decide (y153.ty ≤ q21)) (J156 (true)) (J156 ((decide ((y7.1.types.length : Int) ≤ y153.ty))))) (fun q155 => jp (ι := Bool) (fun J159 => br q155 (J159 (true)) (jp (ι := Bool) (fun J162 => br y153.has (cal (getI y7.1.types y153.ty) fun y164 => J162 ((!decide (y164.kind = y153.dflt.kind)))) (J162 (false))) (fun q161 => J159 (q161)))) (fun q158 => jp (ι := Bool) (fun J166 => br q158 (J166 (true)) (jp (ι := Bool) (fun J169 => br y153.has (J169 (y153.optional)) (J169 (false))) (fun q168 => J166 (q168)))) (fun q165 => br q165 (some (false)) (cal (r10_Begins y7.1 y153.ty) fun y171 => asr (Nat.ble (q123.1.length + ([y171] : (List (List Tag))).length) 68719476736) <| ck ((q123.2 + (1 : Int))) <| L124 ((q123.1 ++ ([y171] : (List (List Tag)))), (q123.2 + (1 : Int)))))))) (jp (ι := Bool) (fun J177 => br (!decide (y103.kind = (7 : Int))) (cal (r09_Distinct q123.1) fun y179 => J177 ((!y179))) (J177 (false))) (fun q176 => br q176 (some (false)) (ck ((q21 + (1 : Int))) <| L22 ((q21 + (1 : Int))))))) ((([] : (List (List Tag))), (0 : Int)))))))) (some (true))) (((0 : Int)))))))))
end Go.Proofs.YtiibmpdjkdjbiaaGreatDoor


namespace Go.Proofs.YtiibmpdjkdjbiaaGreatDoor
open Go.Sy
set_option linter.unusedVariables false

/-! ### Numbers of items -/
def hasNum (l : List GItem) (v : Int) : Bool := l.any fun it => it.has && decide (it.number = v)
theorem hasNum_cons (y : GItem) (l : List GItem) (v : Int) : hasNum (y :: l) v = ((y.has && decide (y.number = v)) || hasNum l v) := by unfold hasNum; rw [List.any_cons]
def cntGe (l : List GItem) (v : Int) : Nat := (l.filter fun it => it.has && decide (v ≤ it.number)).length
theorem cntGe_le (l : List GItem) (v : Int) : cntGe l v ≤ l.length := List.length_filter_le _ _
theorem cntGe_mono (l : List GItem) (v : Int) : cntGe l (v + 1) ≤ cntGe l v := by
  unfold cntGe
  induction l with
  | nil => exact Nat.le_refl _
  | cons a l ih =>
    rw [List.filter_cons, List.filter_cons]
    by_cases h1 : a.has && decide (v + 1 ≤ a.number)
    · have h2 : (a.has && decide (v ≤ a.number)) = true := by
        simp only [Bool.and_eq_true, decide_eq_true_eq] at h1 ⊢
        exact ⟨h1.1, by omega⟩
      rw [if_pos h1, if_pos h2]; simp only [List.length_cons]; omega
    · rw [if_neg h1]
      split
      · simp only [List.length_cons]; omega
      · exact ih
theorem cntGe_taken {l : List GItem} {v : Int} (h : hasNum l v = true) : cntGe l (v + 1) + 1 ≤ cntGe l v := by
  induction l with
  | nil => cases h
  | cons a l ih =>
    unfold hasNum at h ih
    rw [List.any_cons, Bool.or_eq_true] at h
    have hm := cntGe_mono l v
    unfold cntGe at hm ih ⊢
    rw [List.filter_cons, List.filter_cons]
    by_cases h1 : (a.has && decide (a.number = v)) = true
    · simp only [Bool.and_eq_true, decide_eq_true_eq] at h1
      have h2 : ¬ (a.has && decide (v + 1 ≤ a.number)) = true := by
        simp only [Bool.and_eq_true, decide_eq_true_eq, not_and]
        intro _; omega
      have h3 : (a.has && decide (v ≤ a.number)) = true := by
        simp only [Bool.and_eq_true, decide_eq_true_eq]; exact ⟨h1.1, by omega⟩
      rw [if_neg h2, if_pos h3]; simp only [List.length_cons]; omega
    · have ih := ih (by rcases h with h | h; exact absurd h h1; exact h)
      by_cases h2 : (a.has && decide (v + 1 ≤ a.number)) = true
      · have h3 : (a.has && decide (v ≤ a.number)) = true := by
          simp only [Bool.and_eq_true, decide_eq_true_eq] at h2 ⊢; exact ⟨h2.1, by omega⟩
        rw [if_pos h2, if_pos h3]; simp only [List.length_cons]; omega
      · rw [if_neg h2]
        split
        · simp only [List.length_cons]; omega
        · exact ih
/-! ### UTF-8 -/
theorem tkl {α : Type} (l : List α) : l.take ((l.length : Int)).toNat = l := by rw [Int.toNat_natCast, List.take_length]
theorem word_tot8 (s : List UInt8) (h : 8 ≤ s.length) : T (fun _ => True) (utf8_word_Lbyte s) := by
  unfold utf8_word_Lbyte
  refine T.get (by omega) (by omega) fun _ _ => T.get (by omega) (by omega) fun _ _ => T.asr (by decide) (T.get (by omega) (by omega) fun _ _ => T.asr (by decide) (T.get (by omega) (by omega) fun _ _ => T.asr (by decide) (T.get (by omega) (by omega) fun _ _ => T.asr (by decide) (T.get (by omega) (by omega) fun _ _ => T.asr (by decide) (T.get (by omega) (by omega) fun _ _ => T.asr (by decide) (T.get (by omega) (by omega) fun _ _ => T.asr (by decide) (T.some trivial)))))))
theorem tab1_hi (y : UInt8) : (shr8 (tab1 y) (4 : UInt64).toNat).toNat < 16 := by
  unfold shr8
  have h := (tab1 y).toNat_lt
  have e : (4 : UInt64).toNat = 4 := rfl
  rw [e, UInt8.toNat_ofNat', show (2 : Nat) ^ 4 = 16 from rfl]
  omega
theorem utf8_tot (p : List UInt8) (hp : p.length ≤ 1000000) : T (fun _ => True) (utf8_Valid p) := by
  unfold utf8_Valid
  have e1 : (1 : Int).toNat = 1 := rfl
  have e2 : (2 : Int).toNat = 2 := rfl
  have e3 : (3 : Int).toNat = 3 := rfl
  have e4 : (4 : Int).toNat = 4 := rfl
  have e8 : (8 : Int).toNat = 8 := rfl
  have e16 : (16 : Int).toNat = 16 := rfl
  have e24 : (24 : Int).toNat = 24 := rfl
  have e32 : (32 : Int).toNat = 32 := rfl
  simp only [tkl, e1, e2, e3, e4, e8, e16, e24, e32, List.drop_drop]
  refine T.asd ⟨by omega, Int.le_refl _⟩ (T.lp (fun (q : List UInt8) => q.length ≤ 1000000) (fun (q : List UInt8) => q.length) hp (by omega) fun L q hq hL => ?_)
  refine T.br (fun hb => ?_) fun _ => T.some trivial
  have hb := of_decide_eq_true hb
  refine T.get (by omega) hb fun y hy => T.br (fun _ => ?_) fun _ => ?_
  · have hd1 : (q.drop 1).length = q.length - 1 := List.length_drop
    refine T.asd ⟨by omega, by omega, by omega⟩ ?_
    refine T.jp (fun b => b = true → 8 < (q.drop 1).length) (fun J h => T.br (fun h2 => ?_) fun _ => h _ fun h => by cases h) fun b hb1 => ?_
    · have h2 := of_decide_eq_true h2
      exact T.cal (word_tot8 _ (by omega)) fun _ _ _ => h _ fun _ => by omega
    refine T.jp (fun (r : List UInt8) => r.length < q.length) (fun J h => T.br (fun h2 => ?_) fun _ => h _ (by omega)) fun r hr => hL _ (by omega) hr
    have h2 := hb1 h2
    have hd9 : (q.drop (1 + 8)).length = q.length - 9 := List.length_drop
    refine T.asd ⟨by omega, by omega, by omega⟩ ?_
    refine T.jp (fun b => b = true → 16 < (q.drop (1 + 8)).length) (fun J2 h3 => T.br (fun h4 => ?_) fun _ => h3 _ fun h => by cases h) fun b2 hb2 => ?_
    · have h4 := of_decide_eq_true h4
      have hd17 : (q.drop (1 + 8 + 8)).length = q.length - 17 := List.length_drop
      exact T.asd ⟨by omega, by omega, by omega⟩ (T.cal (word_tot8 _ (by omega)) fun _ _ _ => T.cal (word_tot8 _ (by omega)) fun _ _ _ => h3 _ fun _ => by omega)
    refine T.br (fun h5 => ?_) fun _ => h _ (by omega)
    have h5 := hb2 h5
    have hd25 : (q.drop (1 + 8 + 16)).length = q.length - 25 := List.length_drop
    refine T.asd ⟨by omega, by omega, by omega⟩ (T.lp (fun (r : List UInt8) => r.length < q.length) (fun (r : List UInt8) => r.length) (by omega) (by omega) fun L2 r hr hL2 => ?_)
    have r8 : (r.drop 8).length = r.length - 8 := List.length_drop
    have r16 : (r.drop 16).length = r.length - 16 := List.length_drop
    have r24 : (r.drop 24).length = r.length - 24 := List.length_drop
    have r32 : (r.drop 32).length = r.length - 32 := List.length_drop
    refine T.jp (fun b => b = true → 32 < r.length) (fun J2 h3 => T.br (fun h6 => ?_) fun _ => h3 _ fun h => by cases h) fun b3 hb3 => ?_
    · have h6 := of_decide_eq_true h6
      exact T.asd ⟨by omega, by omega, by omega⟩ (T.asd ⟨by omega, by omega, by omega⟩ (T.asd ⟨by omega, by omega, by omega⟩ (T.cal (word_tot8 _ (by omega)) fun _ _ _ => T.cal (word_tot8 _ (by omega)) fun _ _ _ => T.cal (word_tot8 _ (by omega)) fun _ _ _ => T.cal (word_tot8 _ (by omega)) fun _ _ _ => h3 _ fun _ => by omega)))
    · refine T.br (fun h6 => ?_) fun _ => h _ hr
      have h6 := hb3 h6
      exact T.asd ⟨by omega, by omega, by omega⟩ (hL2 _ (by omega) (by omega))
  · have hd2 : (q.drop 2).length = q.length - 2 := List.length_drop
    have hd3 : (q.drop 3).length = q.length - 3 := List.length_drop
    have hd4 : (q.drop 4).length = q.length - 4 := List.length_drop
    have ht : Nat.blt (shr8 (tab1 y) (4 : UInt64).toNat).toNat 16 = true := by have := tab1_hi y; simpa using this
    have or1 : ∀ {β : Type} {R : β → Prop} {b : Bool} {n : Nat} {f : UInt8 → Bool} {i : Int} {K : Bool → Option β}, (b = false → (n : Int) ≤ q.length) → 0 ≤ i → i < n → (∀ c, (c = false → (n : Int) ≤ q.length) → T R (K c)) → T R (jp (ι := Bool) (fun J => br b (J true) (cal (getI q i) fun z => J (f z))) K) := fun {β R b n f i K} h1 h2 h3 h4 => T.jp (fun c => c = false → (n : Int) ≤ q.length) (fun J h => T.br (fun _ => h _ fun h => by cases h) fun hb => T.get h2 (by have := h1 hb; omega) fun _ _ => h _ fun _ => h1 hb) h4
    have lt1 : ∀ {n : Nat}, decide ((q.length : Int) < (n : Int)) = false → (n : Int) ≤ q.length := fun {n} h => by have := of_decide_eq_false h; omega
    refine T.asr (by decide) (T.asr ht (T.br (fun _ => ?_) fun _ => T.br (fun _ => ?_) fun _ => T.br (fun _ => ?_) fun _ => T.some trivial))
    · refine or1 (n := 2) lt1 (by omega) (by omega) fun c1 k1 => or1 (n := 2) k1 (by omega) (by omega) fun c2 k2 => T.br (fun _ => T.some trivial) fun h6 => ?_
      have := k2 h6
      exact T.asd ⟨by omega, by omega, by omega⟩ (hL _ (by omega) (by omega))
    · refine or1 (n := 3) lt1 (by omega) (by omega) fun c1 k1 => or1 (n := 3) k1 (by omega) (by omega) fun c2 k2 => or1 (n := 3) k2 (by omega) (by omega) fun c3 k3 => or1 (n := 3) k3 (by omega) (by omega) fun c4 k4 => T.br (fun _ => T.some trivial) fun h6 => ?_
      have := k4 h6
      exact T.asd ⟨by omega, by omega, by omega⟩ (hL _ (by omega) (by omega))
    · refine or1 (n := 4) lt1 (by omega) (by omega) fun c1 k1 => or1 (n := 4) k1 (by omega) (by omega) fun c2 k2 => or1 (n := 4) k2 (by omega) (by omega) fun c3 k3 => or1 (n := 4) k3 (by omega) (by omega) fun c4 k4 => or1 (n := 4) k4 (by omega) (by omega) fun c5 k5 => or1 (n := 4) k5 (by omega) (by omega) fun c6 k6 => T.br (fun _ => T.some trivial) fun h6 => ?_
      have := k6 h6
      exact T.asd ⟨by omega, by omega, by omega⟩ (hL _ (by omega) (by omega))
def kidsT (t : GTyp) : List Int := t.fields.map (fun f => f.ty) ++ (if t.kind = 10 then [t.of] else [])
structure TypOk (t : GTyp) : Prop where
  tags : t.kind ≠ 9 → t.tags ≠ []
  tlen : t.tags.length ≤ 100000
  fields : ¬ (t.kind = 7 ∨ t.kind = 8 ∨ t.kind = 9) → t.fields = []
  ilen : t.items.length ≤ 8001
def SubT : Nat → List GTyp → Nat → Nat → Prop
  | 0, _, _, _ => False
  | h + 1, l, i, j => ∃ t, l[i]? = some t ∧ TypOk t ∧ Kids (SubT h l) (kidsT t) (i + 1) j
theorem SubT.lt : ∀ {h l i j}, SubT h l i j → i < j := by
  intro h
  induction h with
  | zero => intro l i j h; exact h.elim
  | succ h ih => intro l i j ⟨n, _, _, h2⟩; exact Kids.le (fun x y h => Nat.le_of_lt (ih h)) h2
theorem SubT.mono : ∀ {h l l' i j}, (∀ k, i ≤ k → k < j → l'[k]? = l[k]?) → SubT h l i j → SubT h l' i j := by
  intro h
  induction h with
  | zero => intro l l' i j _ h; exact h
  | succ h ih =>
    intro l l' i j hl hs
    have hlt := hs.lt
    obtain ⟨n, h1, h0, h2⟩ := hs
    refine ⟨n, by rw [hl i (Nat.le_refl _) hlt]; exact h1, h0, Kids.mono (fun x y h => Nat.le_of_lt h.lt) (fun x y hx hy hs => ih (fun k h3 h4 => hl k (by omega) (by omega)) hs) h2⟩
theorem KidsT.monoL {h l l' r a b} (hl : ∀ k, a ≤ k → k < b → l'[k]? = l[k]?) (hk : Kids (SubT h l) r a b) : Kids (SubT h l') r a b :=
  Kids.mono (fun x y h => Nat.le_of_lt h.lt) (fun x y hx hy hs => hs.mono fun k h3 h4 => hl k (by omega) (by omega)) hk
theorem SubT.up : ∀ {h l i j}, SubT h l i j → SubT (h + 1) l i j := by
  intro h
  induction h with
  | zero => intro l i j h; exact h.elim
  | succ h ih =>
    intro l i j ⟨n, h1, h0, h2⟩
    exact ⟨n, h1, h0, Kids.mono (fun x y h => Nat.le_of_lt h.lt) (fun x y _ _ hs => ih hs) h2⟩
theorem SubT.set {h l i j t t'} (hs : SubT h l i j) (ht : l[i]? = some t) (ok : TypOk t') (hk : kidsT t' = kidsT t) : SubT h (l.set i t') i j := by
  cases h with
  | zero => exact hs
  | succ h =>
    obtain ⟨n, h1, h0, h2⟩ := hs
    rw [ht] at h1; cases h1
    have hlt := (List.getElem?_eq_some_iff.1 ht).1
    refine ⟨t', by rw [List.getElem?_set_self hlt], ok, ?_⟩
    rw [hk]
    exact KidsT.monoL (fun k h3 h4 => List.getElem?_set_ne (by omega)) h2
theorem Kids.mem3 {S : Nat → Nat → Prop} (hS : ∀ x y, S x y → x ≤ y) {k : Int} : ∀ {r a b}, Kids S r a b → k ∈ r → ∃ (c d : Nat), k = (c : Int) ∧ S c d ∧ a ≤ c ∧ d ≤ b := by
  intro r
  induction r with
  | nil => intro a b _ h; cases h
  | cons x r ih =>
    intro a b ⟨c, h0, h1, h2⟩ hm
    have h3 := Kids.le hS h2
    rcases List.mem_cons.1 hm with e | e
    · exact ⟨a, c, e.trans h0, h1, Nat.le_refl _, h3⟩
    · obtain ⟨c', d', k1, k2, k3, k4⟩ := ih h2 e
      have := hS _ _ h1
      exact ⟨c', d', k1, k2, by omega, k4⟩
theorem SubT.le' {h l} : ∀ x y, SubT h l x y → x ≤ y := fun x y h => Nat.le_of_lt h.lt
theorem kidsT_f {t : GTyp} (f : GFld) (hf : f ∈ t.fields) : f.ty ∈ kidsT t := List.mem_append_left _ (List.mem_map.2 ⟨f, hf, rfl⟩)
theorem SubT.inb : ∀ {h l i j}, SubT h l i j → j ≤ l.length := by
  intro h
  induction h with
  | zero => intro l i j h; exact h.elim
  | succ h ih =>
    intro l i j ⟨t, h1, h0, h2⟩
    have hi := (List.getElem?_eq_some_iff.1 h1).1
    have : ∀ (r : List Int) (a b : Nat), Kids (SubT h l) r a b → a ≤ l.length → b ≤ l.length := by
      intro r
      induction r with
      | nil => intro a b h2 ha; cases h2; exact ha
      | cons x r ih2 => intro a b ⟨c, k1, k2, k3⟩ ha; exact ih2 c b k3 (ih k2)
    exact this _ _ _ h2 (by omega)

/-! ### By which tags they begin -/
def bgs : Nat → List GTyp → Int → List Tag
  | 0, _, _ => []
  | h + 1, l, i => match (if 0 ≤ i then l[i.toNat]? else none) with
    | none => []
    | some t => if 0 < t.tags.length then t.tags.take 1 else t.fields.flatMap fun f => bgs h l f.ty
def wld : Nat → List GTyp → Int → Bool
  | 0, _, _ => false
  | h + 1, l, i => match (if 0 ≤ i then l[i.toNat]? else none) with
    | none => false
    | some t => if t.kind ≠ 9 ∨ 0 < t.tags.length then false else t.more || t.fields.any fun f => wld h l f.ty
theorem bgs_at {l : List GTyp} {h i : Nat} {t : GTyp} (e : l[i]? = some t) : bgs (h + 1) l (i : Int) = if 0 < t.tags.length then t.tags.take 1 else t.fields.flatMap fun f => bgs h l f.ty := by
  conv => lhs; unfold bgs
  rw [if_pos (by omega), Int.toNat_natCast, e]
theorem wld_at {l : List GTyp} {h i : Nat} {t : GTyp} (e : l[i]? = some t) : wld (h + 1) l (i : Int) = if t.kind ≠ 9 ∨ 0 < t.tags.length then false else t.more || t.fields.any fun f => wld h l f.ty := by
  conv => lhs; unfold wld
  rw [if_pos (by omega), Int.toNat_natCast, e]
theorem kids_flat {h : Nat} {l : List GTyp} (F : Int → List Tag) (hF : ∀ x y, SubT h l x y → (F (x : Int)).length ≤ y - x) : ∀ {r : List Int} {a b : Nat}, Kids (SubT h l) r a b → (r.flatMap F).length ≤ b - a := by
  intro r
  induction r with
  | nil => intro a b _; simp
  | cons k r ih =>
    intro a b ⟨c, h0, h1, h2⟩
    have e1 := hF _ _ h1
    have e2 := ih h2
    have e3 := h1.lt
    have e4 := Kids.le SubT.le' h2
    rw [List.flatMap_cons, List.length_append, h0]
    omega
theorem Kids.app {S : Nat → Nat → Prop} {ys : List Int} : ∀ {xs : List Int} {a b : Nat}, Kids S (xs ++ ys) a b → ∃ c, Kids S xs a c ∧ Kids S ys c b := by
  intro xs
  induction xs with
  | nil => intro a b h; exact ⟨a, rfl, h⟩
  | cons x xs ih =>
    intro a b ⟨c, h0, h1, h2⟩
    obtain ⟨d, h3, h4⟩ := ih h2
    exact ⟨d, ⟨c, h0, h1, h3⟩, h4⟩
theorem bgs_len : ∀ {h l i j}, SubT h l i j → (bgs h l (i : Int)).length ≤ j - i := by
  intro h
  induction h with
  | zero => intro l i j h; exact h.elim
  | succ h ih =>
    intro l i j hs
    have hlt := hs.lt
    obtain ⟨t, h1, h0, h2⟩ := hs
    rw [bgs_at h1]
    split
    · rw [List.length_take]; omega
    · unfold kidsT at h2
      obtain ⟨c, h3, h4⟩ := Kids.app h2
      have := kids_flat (bgs h l) (fun x y hs => ih hs) h3
      rw [List.flatMap_map] at this
      have e4 := Kids.le SubT.le' h4
      have e3 := Kids.le SubT.le' h3
      omega
theorem take_flat {α β : Type} {l : List α} {f : α → List β} {k : Nat} {y : α} (h : l[k]? = some y) : (l.take (k + 1)).flatMap f = (l.take k).flatMap f ++ f y := by
  rw [List.take_add_one, h]
  simp
theorem flat_take_le {α β : Type} {l : List α} {f : α → List β} {k : Nat} : ((l.take k).flatMap f).length ≤ (l.flatMap f).length := by
  conv => rhs; rw [← List.take_append_drop k l]
  rw [List.flatMap_append, List.length_append]
  omega
theorem begins10_eq : ∀ {h n l i j}, SubT h l i j → h ≤ n → l.length ≤ 1000 → r10_begins n l (i : Int) = some (bgs h l (i : Int)) := by
  intro h
  induction h with
  | zero => intro n l i j h; exact h.elim
  | succ h ih =>
    intro n l i j hs hn hl
    obtain ⟨n, rfl⟩ : ∃ n', n = n' + 1 := ⟨n - 1, by omega⟩
    have hjl := hs.inb
    have hbl := bgs_len hs
    have hlt := hs.lt
    obtain ⟨t, h1, h0, h2⟩ := hs
    have hti : (i : Int).toNat = i := Int.toNat_natCast i
    have hget : ∀ {β : Type} {R : β → Prop} {K : GTyp → Option β}, T R (K t) → T R (cal (getI l (i : Int)) K) := fun h => T.get (by omega) (by omega) fun y hy => by rw [hti, h1] at hy; cases hy; exact h
    refine T.eqs ?_
    show T _ (r10_begins_F (r10_begins n) l (i : Int))
    unfold r10_begins_F
    rw [bgs_at h1] at hbl ⊢
    refine hget (T.br (fun hb => hget (T.asd ⟨Int.le_refl _, by omega, by have := of_decide_eq_true hb; omega⟩ (T.some ?_))) fun hb => ?_)
    · have hb := of_decide_eq_true hb
      rw [if_pos (by omega)]; rfl
    have hb := of_decide_eq_false hb
    rw [if_neg (by omega)] at hbl ⊢
    have hfl : ∀ (k : Nat), (((t.fields.take k).flatMap fun f => bgs h l f.ty)).length ≤ 1000 := fun k => by
      have := flat_take_le (l := t.fields) (f := fun f => bgs h l f.ty) (k := k)
      omega
    have hfc : t.fields.length ≤ 1000 := by
      unfold kidsT at h2
      obtain ⟨c, h3, h4⟩ := Kids.app h2
      have e : ∀ (r : List Int) (a b : Nat), Kids (SubT h l) r a b → r.length ≤ b - a := by
        intro r
        induction r with
        | nil => intro a b _; exact Nat.zero_le _
        | cons x r ih2 =>
          intro a b ⟨c, k0, k1, k2⟩
          have := ih2 _ _ k2
          have := k1.lt
          have := Kids.le SubT.le' k2
          simp only [List.length_cons]; omega
      have := e _ _ _ h3
      rw [List.length_map] at this
      have := Kids.le SubT.le' h4
      omega
    refine T.lp (ι := List Tag × Int) (fun q => 0 ≤ q.2 ∧ q.2 ≤ t.fields.length ∧ q.1 = (t.fields.take q.2.toNat).flatMap fun f => bgs h l f.ty) (fun q => ((t.fields.length : Int) - q.2).toNat) ⟨Int.le_refl _, by dsimp only; omega, rfl⟩ (by dsimp only; omega) fun L q ⟨q1, q2, q3⟩ hL => ?_
    obtain ⟨o, k⟩ := q
    dsimp only at q1 q2 q3 hL ⊢
    refine hget (T.br (fun hb2 => ?_) fun hb2 => T.some ?_)
    · have hb2 := of_decide_eq_true hb2
      refine hget (T.get q1 hb2 fun f hf => ?_)
      obtain ⟨c, d, e1, e2, e3, e4⟩ := Kids.mem3 SubT.le' h2 (kidsT_f f (List.mem_of_getElem? hf))
      rw [e1]
      have hk1 : (k + 1).toNat = k.toNat + 1 := by omega
      have hnx := take_flat (f := fun f : GFld => bgs h l f.ty) hf
      have hle := hfl (k.toNat + 1)
      rw [hnx, List.length_append, e1] at hle
      have hle2 := hfl k.toNat
      refine T.eq (ih e2 (by omega) hl) (T.abl (by rw [q3]; omega) (T.ck (by omega) (hL _ ⟨by dsimp only; omega, by dsimp only; omega, ?_⟩ (by dsimp only; omega))))
      dsimp only
      rw [hk1, hnx, q3, e1]
    · have hb2 := of_decide_eq_false hb2
      rw [q3, List.take_of_length_le (by omega)]
/-! ### Told apart -/
theorem in_tag_eq (l : List Tag) (x : Tag) (hl : l.length ≤ 1000000) : h_In_api_Tag l x = some (decide (x ∈ l)) := by
  refine T.eqs ?_
  unfold h_In_api_Tag
  refine T.lp (fun (k : Int) => 0 ≤ k ∧ k ≤ (l.length : Int) ∧ x ∉ l.take k.toNat) (fun (k : Int) => ((l.length : Int) - k).toNat) ⟨Int.le_refl _, by omega, by simp⟩ (by omega) fun L k hk hL => ?_
  refine T.br (fun h2 => ?_) fun h2 => T.some ?_
  · have h2 := of_decide_eq_true h2
    refine T.get hk.1 h2 fun y hy => T.br (fun h3 => T.some ?_) fun h3 => T.ck (by omega) (hL _ ⟨by omega, by omega, ?_⟩ (by omega))
    · have h3 := of_decide_eq_true h3
      subst h3
      exact (decide_eq_true (List.mem_of_getElem? hy)).symm
    · have h3 := of_decide_eq_false h3
      have e : (k + 1).toNat = k.toNat + 1 := by omega
      rw [e, List.take_add_one, hy]
      simp only [Option.toList_some, List.mem_append, List.mem_singleton, not_or]
      exact ⟨hk.2.2, fun h => h3 h.symm⟩
  · have h2 := of_decide_eq_false h2
    have h4 := hk.2.2
    rw [List.take_of_length_le (by omega)] at h4
    exact (decide_eq_false h4).symm
theorem flat_snoc_list {α : Type} {l : List (List α)} {k : Nat} {y : List α} (h : l[k]? = some y) : (l.take (k + 1)).flatten = (l.take k).flatten ++ y := by
  rw [List.take_add_one, h]; simp
theorem flat_le {α : Type} (l : List (List α)) (k : Nat) : ((l.take k).flatten).length ≤ l.flatten.length := by
  conv => rhs; rw [← List.take_append_drop k l]
  rw [List.flatten_append, List.length_append]
  omega
theorem distinct9_eq (s : List (List Tag)) (h1 : s.length ≤ 10000) (h2 : s.flatten.length ≤ 100000) : r09_Distinct s = some (decide s.flatten.Nodup) := by
  refine T.eqs ?_
  unfold r09_Distinct
  refine T.lp (ι := List Tag × Int) (fun q => 0 ≤ q.2 ∧ q.2 ≤ s.length ∧ q.1 = (s.take q.2.toNat).flatten ∧ q.1.Nodup) (fun q => ((s.length : Int) - q.2).toNat) ⟨Int.le_refl _, by dsimp only; omega, rfl, List.nodup_nil⟩ (by dsimp only; omega) fun L q ⟨q1, q2, q3, q4⟩ hL => ?_
  obtain ⟨o, k⟩ := q
  dsimp only at q1 q2 q3 q4 hL ⊢
  refine T.br (fun hb => ?_) fun hb => T.some ?_
  · have hb := of_decide_eq_true hb
    obtain ⟨y, hy⟩ : ∃ y, s[k.toNat]? = some y := ⟨_, List.getElem?_eq_getElem (by omega)⟩
    have hk1 : (k + 1).toNat = k.toNat + 1 := by omega
    have hnx := flat_snoc_list hy
    have hle := flat_le s (k.toNat + 1)
    rw [hnx, List.length_append] at hle
    have hget : ∀ {β : Type} {R : β → Prop} {K : List Tag → Option β}, T R (K y) → T R (cal (getI s k) K) := fun h => T.get q1 hb fun y' hy' => by rw [hy] at hy'; cases hy'; exact h
    have hpre : ∀ n : Nat, n ≤ y.length → ¬ ((s.take k.toNat).flatten ++ y.take n).Nodup → ¬ s.flatten.Nodup := fun n hn hno h => hno (by
      have e : s.flatten = ((s.take k.toNat).flatten ++ y.take n) ++ (y.drop n ++ (s.drop (k.toNat + 1)).flatten) := by
        conv => lhs; rw [← List.take_append_drop (k.toNat + 1) s]
        rw [List.flatten_append, hnx]
        conv => lhs; rw [← List.take_append_drop n y]
        simp only [List.append_assoc]
      rw [e] at h
      exact (List.nodup_append.1 h).1)
    refine T.lp (ι := List Tag × Int) (fun p => 0 ≤ p.2 ∧ p.2 ≤ y.length ∧ p.1 = (s.take k.toNat).flatten ++ y.take p.2.toNat ∧ p.1.Nodup) (fun p => ((y.length : Int) - p.2).toNat) ⟨Int.le_refl _, by dsimp only; omega, by dsimp only; rw [q3]; simp, q4⟩ (by dsimp only; omega) fun L2 p ⟨p1, p2, p3, p4⟩ hL2 => ?_
    obtain ⟨o2, i⟩ := p
    dsimp only at p1 p2 p3 p4 hL2 ⊢
    have hi1 : (i + 1).toNat = i.toNat + 1 := by omega
    refine hget (T.br (fun hb2 => ?_) fun hb2 => T.ck (by omega) (hL _ ⟨by dsimp only; omega, by dsimp only; omega, ?_, p4⟩ (by dsimp only; omega)))
    · have hb2 := of_decide_eq_true hb2
      obtain ⟨z, hz⟩ : ∃ z, y[i.toNat]? = some z := ⟨_, List.getElem?_eq_getElem (by omega)⟩
      have hget2 : ∀ {β : Type} {R : β → Prop} {K : Tag → Option β}, T R (K z) → T R (cal (getI y i) K) := fun h => T.get p1 hb2 fun z' hz' => by rw [hz] at hz'; cases hz'; exact h
      have hz2 : y.take (i.toNat + 1) = y.take i.toNat ++ [z] := by rw [List.take_add_one, hz]; rfl
      have hol : o2.length ≤ 100000 := by rw [p3, List.length_append, List.length_take]; omega
      refine hget (hget2 (T.eq (in_tag_eq _ _ (by omega)) (T.br (fun hm => T.some ?_) fun hm => hget (hget2 (T.abl (by simp only [List.length_singleton]; omega) (T.ck (by omega) (hL2 _ ⟨by dsimp only; omega, by dsimp only; omega, ?_, ?_⟩ (by dsimp only; omega))))))))
      · have hm := of_decide_eq_true hm
        symm
        refine decide_eq_false (hpre (i.toNat + 1) (by omega) ?_)
        rw [hz2, ← List.append_assoc, ← p3]
        intro hnd
        have := (List.nodup_append.1 hnd).2.2 z hm z (List.mem_singleton.2 rfl)
        exact this rfl
      · dsimp only; rw [hi1, hz2, p3, List.append_assoc]
      · have hm := of_decide_eq_false hm
        dsimp only
        rw [List.nodup_append]
        refine ⟨p4, by simp, fun a ha b hb e => ?_⟩
        rw [List.mem_singleton.1 hb] at e
        exact hm (e ▸ ha)
    · have hb2 := of_decide_eq_false hb2
      dsimp only
      rw [hk1, hnx, p3, List.take_of_length_le (show y.length ≤ i.toNat by omega)]
  · have hb := of_decide_eq_false hb
    rw [q3, List.take_of_length_le (by omega)] at q4
    exact (decide_eq_true q4).symm

theorem kids_len {h : Nat} {l : List GTyp} : ∀ {r : List Int} {a b : Nat}, Kids (SubT h l) r a b → r.length ≤ b - a := by
  intro r
  induction r with
  | nil => intro a b _; exact Nat.zero_le _
  | cons x r ih =>
    intro a b ⟨c, k0, k1, k2⟩
    have := ih k2
    have := k1.lt
    have := Kids.le SubT.le' k2
    simp only [List.length_cons]; omega
def tld (h : Nat) (l : List GTyp) (fs : List GFld) (o : Bool) : Bool := !(fs.any fun f => wld h l f.ty && (o || decide (1 < fs.length))) && decide (fs.flatMap fun f => bgs h l f.ty).Nodup
theorem KidsT.sub {h : Nat} {l : List GTyp} : ∀ {r a b} (n m : Nat), Kids (SubT h l) r a b → ∃ c d, Kids (SubT h l) ((r.take n).drop m) c d ∧ d ≤ b := by
  intro r a b n m hk
  have h1 : r = (r.take n).take m ++ ((r.take n).drop m ++ r.drop n) := by
    rw [← List.append_assoc, List.take_append_drop, List.take_append_drop]
  rw [h1] at hk
  obtain ⟨c, _, h3⟩ := Kids.app hk
  obtain ⟨d, h4, h5⟩ := Kids.app h3
  exact ⟨c, d, h4, Kids.le SubT.le' h5⟩
structure Sm (x y : GMk) : Prop where
  m : y.m = x.m
  l : y.l = x.l
  e : y.e = 0 → x.e = 0
theorem Sm.refl (x : GMk) : Sm x x := ⟨rfl, rfl, fun h => h⟩
theorem Sm.trans {x y z : GMk} (h : Sm x y) (k : Sm y z) : Sm x z := ⟨k.m.trans h.m, k.l.trans h.l, fun e => h.e (k.e e)⟩
def Wp1 (x y : GMk) (i : Nat) : Prop := y.m = x.m ∧ y.l.length = x.l.length ∧ (y.e = 0 → x.e = 0 ∧ ∀ t, x.l[i]? = some t → ∃ tg : List Tag, y.l = x.l.set i { t with tags := tg } ∧ tg ≠ [] ∧ tg.length ≤ t.tags.length + 1)
theorem TypOk.tag {t : GTyp} (h : TypOk t) {tg : List Tag} (h1 : tg ≠ []) (h2 : tg.length ≤ 100000) : TypOk { t with tags := tg } :=
  ⟨fun _ => h1, h2, h.fields, h.ilen⟩
def Dn (m : GMod) (a : Int) (k j : Nat) : Prop := ∀ (p : Nat) (n : GNode), k ≤ p → p < j → m.nodes[p]? = some n → n.kind = 11 → 0 ≤ fnd m.names n.name ∧ Ed (gr m) a (fnd m.names n.name)
structure Env (m : GMod) (rk : Int → Nat) : Prop where
  wf : WF m
  rk40 : ∀ i, rk i ≤ 40
  ed : ∀ i j, Ed (gr m) i j → rk j < rk i
  root : ∀ b : Int, 0 ≤ b → b < m.names.length → ∃ c d : Nat, m.types[b.toNat]? = some (c : Int) ∧ Sub 17 m.nodes c d ∧ d ≤ m.nodes.length ∧ Dn m b c d
structure Gk (x y : GMk) : Prop where
  m : y.m = x.m
  le : x.l.length ≤ y.l.length
  lim : y.l.length ≤ 300
  e : y.e = 0 → x.e = 0
  pre : y.e = 0 → ∀ k, k < x.l.length → y.l[k]? = x.l[k]?
theorem Gk.refl {x : GMk} (h : x.l.length ≤ 300) : Gk x x := ⟨rfl, Nat.le_refl _, h, fun e => e, fun _ _ _ => rfl⟩
theorem Gk.trans {x y z : GMk} (h : Gk x y) (k : Gk y z) : Gk x z :=
  ⟨k.m.trans h.m, Nat.le_trans h.le k.le, k.lim, fun e => h.e (k.e e), fun e p hp => (k.pre e p (Nat.lt_of_lt_of_le hp h.le)).trans (h.pre (k.e e) p hp)⟩
theorem Gk.wp {x y : GMk} {i : Nat} (h : Wp1 x y i) (hl : x.l.length ≤ 300) (hi : i < x.l.length) : y.m = x.m ∧ y.l.length = x.l.length := ⟨h.1, h.2.1⟩

theorem Kids.subs {h : Nat} {l : List GNode} {k : Int} {r : List Int} {a b : Nat} (hk : Kids (Sub h l) r a b) (hm : k ∈ r) : ∃ (c d : Nat), k = (c : Int) ∧ Sub h l c d ∧ a ≤ c ∧ d ≤ b := Kids.mem3 (fun x y h => Nat.le_of_lt h.lt) hk hm
theorem Dn.part {m : GMod} {a : Int} {k j c d : Nat} (h : Dn m a k j) (h1 : k ≤ c) (h2 : d ≤ j) : Dn m a c d := fun p n hp hq => h p n (by omega) (by omega)

theorem rank_le0 {U V N p q c : Nat} (h : U + (c + 1) ≤ V) (h2 : V + p ≤ N) (hp : 0 < p) (hq : q ≤ c) : U + q ≤ N - 1 := by omega
theorem rank_le1 (c : Nat) {u v N p q : Nat} (h : u < v) (h2 : v * (c + 1) + p ≤ N) (hp : 0 < p) (hq : q ≤ c) : u * (c + 1) + q ≤ N - 1 := by
  have h3 := Nat.mul_le_mul_right (c + 1) (Nat.succ_le_of_lt h)
  rw [Nat.succ_mul] at h3
  exact rank_le0 h3 h2 hp hq
theorem rank_le {u v N p q : Nat} (h : u < v) (h2 : v * 301 + p ≤ N) (hp : 0 < p) (hq : q ≤ 300) : u * 301 + q ≤ N - 1 := rank_le1 300 h h2 hp hq
structure New (n : GNode) (t : GTyp) : Prop where
  kind : t.kind = n.kind
  root : t.root = n.root
  items : t.items = []
  fields : t.fields = []
  tags : t.kind ≠ 9 → t.tags ≠ []
  tlen : t.tags.length ≤ 1
theorem Kids.find {S : Nat → Nat → Prop} {p : Nat} : ∀ {r : List Int} {a b : Nat}, Kids S r a b → a ≤ p → p < b → ∃ (k : Int) (c d : Nat), k ∈ r ∧ k = (c : Int) ∧ S c d ∧ c ≤ p ∧ p < d := by
  intro r
  induction r with
  | nil => intro a b h h1 h2; cases h; omega
  | cons x r ih =>
    intro a b ⟨c, h0, h1, h2⟩ ha hb
    rcases Nat.lt_or_ge p c with h | h
    · exact ⟨x, a, c, List.mem_cons_self, h0, h1, ha, h⟩
    · obtain ⟨k, c', d', k1, k2, k3, k4, k5⟩ := ih h2 h hb
      exact ⟨k, c', d', List.mem_cons_of_mem _ k1, k2, k3, k4, k5⟩
theorem ref_nmx : ∀ {h : Nat} {l : List GNode} {c d p : Nat} {n : GNode}, Sub h l c d → c ≤ p → p < d → l[p]? = some n → n.kind = 11 → n.name ∈ nmx l h (c : Int) := by
  intro h
  induction h with
  | zero => intro l c d p n hs; exact hs.elim
  | succ h ih =>
    intro l c d p n ⟨n0, h1, h2⟩ hc hd hn hk
    rw [nm_node h1]
    rcases Nat.eq_or_lt_of_le hc with e | e
    · subst e
      rw [h1] at hn; cases hn
      rw [if_pos hk]; exact List.mem_singleton.2 rfl
    · by_cases h0 : n0.kind = 11
      · have : kidsOf n0 = [] := by unfold kidsOf; rw [if_pos h0]
        rw [this] at h2
        cases h2
        omega
      · rw [if_neg h0]
        obtain ⟨k, c', d', k1, k2, k3, k4, k5⟩ := Kids.find h2 e hd
        refine List.mem_flatMap.2 ⟨k, k1, ?_⟩
        rw [k2]
        exact ih k3 k4 k5 hn hk
theorem wr_none {m : GMod} (h : (wr m).2 = 0) : first (none_ m) m.names.length 0 = none := by
  unfold wr at h
  split at h
  · cases h
  · split at h
    · cases h
    · assumption
theorem env_of {m : GMod} (w : WF m) (h : (wr m).2 = 0) : ∃ rk : Int → Nat, Env m rk := by
  obtain ⟨rk, r1, r2⟩ := ranks w h
  have hn := w.names
  have ht := w.types
  refine ⟨rk, w, fun i => Nat.le_trans (r1 i) hn, r2, fun b b0 b1 => ?_⟩
  obtain ⟨t, hbt⟩ : ∃ t, m.types[b.toNat]? = some t := ⟨_, List.getElem?_eq_getElem (by omega)⟩
  obtain ⟨c, d, e1, e2, e3, e4⟩ := Kids.subs w.forest (List.mem_of_getElem? hbt)
  subst e1
  refine ⟨c, d, hbt, e2, e4, fun p n hp hq hpn hk => ?_⟩
  have hmem : n.name ∈ nms m (c : Int) := ref_nmx e2 hp hq hpn hk
  have hno := first_none (wr_none h) b b0 (by omega)
  unfold none_ at hno
  rw [hbt] at hno
  have hno : lost m (c : Int) = false := hno
  unfold lost at hno
  have h1 := List.any_eq_false.1 hno _ hmem
  have h2 : 0 ≤ fnd m.names n.name := by
    refine Classical.byContradiction fun hc => h1 (decide_eq_true (by omega))
  refine ⟨h2, b0, uses m (c : Int), by unfold gr; rw [List.getElem?_map, hbt]; rfl, ?_⟩
  unfold uses
  refine mem_adds.2 (.inr (List.mem_filterMap.2 ⟨_, hmem, ?_⟩))
  unfold idx
  rw [if_neg (by omega)]
theorem SubT.sub : ∀ {h : Nat} {l : List GTyp} {r : List Int} {a b : Nat}, Kids (SubT h l) r a b → ∀ i, a ≤ i → i < b → ∃ j, SubT h l i j := by
  intro h
  induction h with
  | zero =>
    intro l r a b hk i h1 h2
    cases r with
    | nil => cases hk; omega
    | cons k r => obtain ⟨c, _, h, _⟩ := hk; exact h.elim
  | succ h ih =>
    intro l r a b hk i h1 h2
    obtain ⟨k, c, d, _, _, k3, k4, k5⟩ := Kids.find hk h1 h2
    rcases Nat.eq_or_lt_of_le k4 with e | e
    · subst e; exact ⟨d, k3⟩
    · obtain ⟨t, _, _, h3⟩ := k3
      obtain ⟨j, hj⟩ := ih h3 i e k5
      exact ⟨j, hj.up⟩
structure TabOk (t : GTab) : Prop where
  names : t.names.length ≤ 40
  roots : t.roots.length = t.names.length
  types : t.types.length ≤ 300
  kids : Kids (SubT 17 t.types) t.roots 0 t.types.length
  fnds : ∀ (p : Nat) (s : Str), t.names[p]? = some s → fnd t.names s = (p : Int)
theorem TabOk.empty (s : Str) : TabOk (GTab.mk s [] [] []) := ⟨Nat.zero_le _, rfl, Nat.zero_le _, rfl, fun p s h => by simp at h⟩
theorem any_cg {α : Type} {p q : α → Bool} : ∀ {l : List α}, (∀ x ∈ l, p x = q x) → l.any p = l.any q
  | [], _ => rfl
  | a :: r, h => by rw [List.any_cons, List.any_cons, h a (List.mem_cons_self ..), any_cg fun x hx => h x (List.mem_cons_of_mem _ hx)]
theorem flat_cg {α β : Type} {p q : α → List β} : ∀ {l : List α}, (∀ x ∈ l, p x = q x) → l.flatMap p = l.flatMap q
  | [], _ => rfl
  | a :: r, h => by rw [List.flatMap_cons, List.flatMap_cons, h a (List.mem_cons_self ..), flat_cg fun x hx => h x (List.mem_cons_of_mem _ hx)]
theorem bgs_loc : ∀ {h : Nat} {l l' : List GTyp} {i j : Nat}, (∀ k, i ≤ k → k < j → l'[k]? = l[k]?) → SubT h l i j → bgs h l' (i : Int) = bgs h l (i : Int) ∧ wld h l' (i : Int) = wld h l (i : Int)
  | 0, _, _, _, _, _, hs => hs.elim
  | h + 1, l, l', i, j, hl, hs => by
    have hlt := hs.lt
    obtain ⟨t, e, _, hk⟩ := hs
    have e' : l'[i]? = some t := (hl i (Nat.le_refl _) hlt).trans e
    have hf : ∀ f ∈ t.fields, bgs h l' f.ty = bgs h l f.ty ∧ wld h l' f.ty = wld h l f.ty := fun f hf => by
      obtain ⟨c, d, h1, h2, h3, h4⟩ := Kids.mem3 SubT.le' hk (kidsT_f f hf)
      rw [h1]; exact bgs_loc (fun k k1 k2 => hl k (by omega) (by omega)) h2
    rw [bgs_at e, bgs_at e', wld_at e, wld_at e', flat_cg fun f h => (hf f h).1, any_cg fun f h => (hf f h).2]
    exact ⟨rfl, rfl⟩
theorem tld_loc {h : Nat} {l l' : List GTyp} {fs : List GFld} {o : Bool} {a b : Nat} (hk : Kids (SubT h l) (fs.map fun f => f.ty) a b) (hl : ∀ k, a ≤ k → k < b → l'[k]? = l[k]?) : tld h l' fs o = tld h l fs o := by
  have hf : ∀ f ∈ fs, bgs h l' f.ty = bgs h l f.ty ∧ wld h l' f.ty = wld h l f.ty := fun f hf => by
    obtain ⟨c, d, h1, h2, h3, h4⟩ := Kids.mem3 SubT.le' hk (List.mem_map.2 ⟨f, hf, rfl⟩)
    rw [h1]; exact bgs_loc (fun k k1 k2 => hl k (by omega) (by omega)) h2
  unfold tld
  rw [flat_cg fun f h => (hf f h).1, any_cg (l := fs) (p := fun f => wld h l' f.ty && (o || decide (1 < fs.length))) (q := fun f => wld h l f.ty && (o || decide (1 < fs.length))) fun f h => by rw [(hf f h).2]]
def ApP (l : List GTyp) (p b : Nat) (t : GTyp) : Prop := ∃ c h, c ≤ b ∧ h ≤ 17 ∧ Kids (SubT h l) (t.fields.map fun f => f.ty) (p + 1) c ∧ (t.kind ≠ 7 → tld h l t.fields t.more = true) ∧ (t.items.map fun q => q.number).Nodup ∧ (t.kind = 9 → t.fields ≠ [] ∨ t.more = true)
def ApR (l : List GTyp) (a b : Nat) : Prop := ∀ (p : Nat) t, a ≤ p → p < b → l[p]? = some t → ApP l p b t
theorem ApP.up {l : List GTyp} {p b b' : Nat} {t : GTyp} (h : ApP l p b t) (k : b ≤ b') : ApP l p b' t := by
  obtain ⟨c, d, h1, h2⟩ := h
  exact ⟨c, d, Nat.le_trans h1 k, h2⟩
theorem ApP.loc {l l' : List GTyp} {p b : Nat} {t t' : GTyp} (h : ApP l p b t) (hl : ∀ k, p + 1 ≤ k → k < b → l'[k]? = l[k]?) (hf : t'.fields = t.fields) (hk : t'.kind = t.kind) (hm : t'.more = t.more) (hi : t'.items = t.items) : ApP l' p b t' := by
  obtain ⟨c, d, h1, h2, h3, h4, h5, h6⟩ := h
  refine ⟨c, d, h1, h2, ?_, ?_, by rw [hi]; exact h5, by rw [hf, hk, hm]; exact h6⟩
  · rw [hf]; exact KidsT.monoL (fun k k1 k2 => hl k k1 (by omega)) h3
  · rw [hf, hk, hm]
    intro h7
    rw [tld_loc h3 fun k k1 k2 => hl k k1 (by omega)]
    exact h4 h7
theorem ApP.leaf {l : List GTyp} {p b : Nat} {t : GTyp} (hb : p + 1 ≤ b) (hf : t.fields = []) (h9 : t.kind ≠ 9) (hi : (t.items.map fun q => q.number).Nodup) : ApP l p b t := by
  refine ⟨p + 1, 0, hb, Nat.zero_le _, ?_, ?_, hi, fun h => absurd h h9⟩
  · rw [hf]; rfl
  · rw [hf]; intro _; rfl
theorem ApR.nil {l : List GTyp} {a : Nat} : ApR l a a := fun p t h1 h2 => by omega
theorem ApR.mono {l l' : List GTyp} {a b : Nat} (hl : ∀ k, a ≤ k → k < b → l'[k]? = l[k]?) (h : ApR l a b) : ApR l' a b := fun p t h1 h2 e => by
  rw [hl p h1 h2] at e
  exact (h p t h1 h2 e).loc (fun k k1 k2 => hl k (by omega) k2) rfl rfl rfl rfl
theorem ApR.app {l : List GTyp} {a b c : Nat} (h : ApR l a b) (k : ApR l b c) (hbc : b ≤ c) : ApR l a c := fun p t h1 h2 e => by
  rcases Nat.lt_or_ge p b with hp | hp
  · exact (h p t h1 hp e).up hbc
  · exact k p t hp h2 e
theorem ApR.cons {l : List GTyp} {i j : Nat} {t : GTyp} (e : l[i]? = some t) (h : ApP l i j t) (k : ApR l (i + 1) j) : ApR l i j := fun p u h1 h2 e2 => by
  rcases Nat.eq_or_lt_of_le h1 with hp | hp
  · subst hp; rw [e] at e2; cases e2; exact h
  · exact k p u hp h2 e2
theorem ApR.set {l l' : List GTyp} {i j : Nat} {t t' : GTyp} (h : ApR l i j) (hij : i < j) (hl : ∀ k, i + 1 ≤ k → k < j → l'[k]? = l[k]?) (e : l[i]? = some t) (e' : l'[i]? = some t') (hf : t'.fields = t.fields) (hk : t'.kind = t.kind) (hm : t'.more = t.more) (hi : t'.items = t.items) : ApR l' i j :=
  ApR.cons e' ((h i t (Nat.le_refl _) hij e).loc hl hf hk hm hi) (ApR.mono hl fun p u h1 h2 e2 => h p u (by omega) h2 e2)
end Go.Proofs.YtiibmpdjkdjbiaaGreatDoor


namespace Go.Proofs.YtiibmpdjkdjbiaaGreatDoor
open Go.Sy
set_option linter.unusedVariables false

theorem innerS_unf (n : Nat) : table_types_inner (n + 1) = table_types_inner_F (table_types_inner n) := rfl
theorem innerS1_unf (n : Nat) : table_types_inner_1 (n + 1) = table_types_inner_1_F (table_types_inner_1 n) := rfl
theorem wild_c1_tot (t : GTyp) (b : Bool) : T (fun _ => True) (table_types_wild_c1 t b) := by
  unfold table_types_wild_c1
  refine T.jp (fun _ => True) (fun J hJ => T.br (fun _ => hJ _ trivial) fun _ => T.jp (fun _ => True) (fun J2 h2 => T.br (fun _ => h2 _ trivial) fun _ => h2 _ trivial) fun _ _ => T.jp (fun _ => True) (fun J2 h2 => T.br (fun _ => h2 _ trivial) fun _ => h2 _ trivial) fun _ _ => hJ _ trivial) fun _ _ => T.some trivial
theorem drop_map {α β : Type} (f : α → β) {l : List α} {k : Int} {y : α} (h0 : 0 ≤ k) (h : l[k.toNat]? = some y) : (l.map f).drop k.toNat = f y :: (l.map f).drop (k + 1).toNat := drop_cons h0 (by rw [List.getElem?_map, h]; rfl)
theorem inner_tot : ∀ {h n : Nat} {i j : Nat} {x : GTmk} {left : Int} {b : Bool}, SubT h x.types.l i j → h ≤ n → x.types.l.length ≤ 1000 → ((j : Int) - i) ≤ left → left ≤ 1000 → T (fun r => r.1 = x ∧ left - ((j : Int) - i) ≤ r.2.1 ∧ r.2.1 ≤ left) (table_types_inner n x (i : Int) left b) := by
  intro h
  induction h with
  | zero => intro n i j x left b hs; exact hs.elim
  | succ h ih =>
    intro n i j x left b hs hn hl hleft hle
    obtain ⟨n, rfl⟩ : ∃ n', n = n' + 1 := ⟨n - 1, by omega⟩
    have hjl := hs.inb
    have hlt := hs.lt
    obtain ⟨t, h1, h0, h2⟩ := hs
    rw [innerS_unf]
    unfold table_types_inner_F
    refine T.jp (fun b => b = false) (fun J hJ => T.brF (decide_eq_false (by omega)) (hJ _ (decide_eq_false (by omega)))) fun b1 hb1 => T.jp (fun b => b = false) (fun J hJ => T.brF hb1 (hJ _ (decide_eq_false (by omega)))) fun b2 hb2 => T.brF hb2 (T.ck (by omega) (T.asd ⟨by omega, by omega⟩ (T.eq (y := t) (by rw [Int.toNat_natCast]; exact h1) (T.cal (wild_c1_tot _ _) fun y12 _ _ => T.br (fun _ => T.some ⟨rfl, by dsimp only; omega, by dsimp only; omega⟩) fun _ => ?_))))
    unfold kidsT at h2
    obtain ⟨e, h3, h4⟩ := Kids.app h2
    have he := Kids.le SubT.le' h4
    have hfl := kids_len h3
    rw [List.length_map] at hfl
    refine T.lp (ι := Int × Bool × Int × GTmk) (fun q => 0 ≤ q.1 ∧ q.1 ≤ t.fields.length ∧ q.2.2.2 = x ∧ ∃ c : Nat, Kids (SubT h x.types.l) ((t.fields.map fun f => f.ty).drop q.1.toNat) c e ∧ i + 1 ≤ c ∧ left - 1 - ((c : Int) - (i + 1)) ≤ q.2.2.1 ∧ q.2.2.1 ≤ left - 1) (fun q => ((t.fields.length : Int) - q.1).toNat) ⟨Int.le_refl _, by dsimp only; omega, rfl, i + 1, h3, Nat.le_refl _, by dsimp only; omega, by dsimp only; omega⟩ (by dsimp only; omega) fun L q ⟨q1, q2, q3, c, q4, q5, q6, q7⟩ hL => ?_
    obtain ⟨k, d, lf, z⟩ := q
    dsimp only at q1 q2 q3 q4 q5 q6 q7 hL ⊢
    subst q3
    have hce := Kids.le SubT.le' q4
    refine T.br (fun hb => ?_) fun _ => T.some ⟨rfl, by dsimp only; omega, by dsimp only; omega⟩
    have hb := of_decide_eq_true hb
    refine T.get q1 hb fun f hf => ?_
    rw [drop_map (fun f : GFld => f.ty) q1 hf] at q4
    obtain ⟨c', k0, k1, k2⟩ := q4
    have hc' := k1.lt
    have hce' := Kids.le SubT.le' k2
    have k0 : f.ty = (c : Int) := k0
    rw [k0]
    refine T.cal (ih k1 (by omega) hl (by omega) (by omega)) fun r _ ⟨r1, r2, r3⟩ => T.ck (by omega) (hL _ ⟨by dsimp only; omega, by dsimp only; omega, r1, c', k2, by omega, by dsimp only; omega, by dsimp only; omega⟩ (by dsimp only; omega))
theorem begins_c1_eq (t : GTyp) (l : List Tag) (hl : l.length ≤ 100000) : table_types_begins_c1 t l = some (l ++ (if 0 < t.tags.length then t.tags.take 1 else [])) := by
  refine T.eqs ?_
  unfold table_types_begins_c1
  cases ht : t.tags with
  | nil => exact T.brF rfl (T.some (by simp))
  | cons a r => exact T.brT (decide_eq_true (by simp only [List.length_cons]; omega)) (T.eq (y := a) rfl (T.abl (by simp only [List.length_singleton]; omega) (T.some (by simp))))
theorem inner1_tot : ∀ {h n : Nat} {i j : Nat} {x : GTmk} {left : Int} {l : List Tag}, SubT h x.types.l i j → h ≤ n → x.types.l.length ≤ 1000 → ((j : Int) - i) ≤ left → left ≤ 1000 → l.length + (j - i) ≤ 100000 → T (fun r => r.1 = x ∧ (left - ((j : Int) - i) ≤ r.2.1 ∧ r.2.1 ≤ left) ∧ r.2.2 = l ++ bgs h x.types.l (i : Int)) (table_types_inner_1 n x (i : Int) left l) := by
  intro h
  induction h with
  | zero => intro n i j x left l hs; exact hs.elim
  | succ h ih =>
    intro n i j x left l hs hn hl hleft hle hacc
    obtain ⟨n, rfl⟩ : ∃ n', n = n' + 1 := ⟨n - 1, by omega⟩
    have hjl := hs.inb
    have hlt := hs.lt
    have hbl := bgs_len hs
    obtain ⟨t, h1, h0, h2⟩ := hs
    rw [bgs_at h1] at hbl ⊢
    rw [innerS1_unf]
    unfold table_types_inner_1_F
    refine T.jp (fun b => b = false) (fun J hJ => T.brF (decide_eq_false (by omega)) (hJ _ (decide_eq_false (by omega)))) fun b1 hb1 => T.jp (fun b => b = false) (fun J hJ => T.brF hb1 (hJ _ (decide_eq_false (by omega)))) fun b2 hb2 => T.brF hb2 (T.ck (by omega) (T.asd ⟨by omega, by omega⟩ (T.eq (y := t) (by rw [Int.toNat_natCast]; exact h1) (T.eq (begins_c1_eq t l (by omega)) ?_))))
    refine T.br (fun hb => T.some ⟨rfl, ⟨by dsimp only; omega, by dsimp only; omega⟩, ?_⟩) fun hb => ?_
    · have hb := of_decide_eq_true hb
      dsimp only
      rw [if_pos (by omega), if_pos (by omega)]
    have hb := of_decide_eq_false hb
    rw [if_neg (by omega), if_neg (by omega), List.append_nil]
    rw [if_neg (by omega)] at hbl
    unfold kidsT at h2
    obtain ⟨e, h3, h4⟩ := Kids.app h2
    have he := Kids.le SubT.le' h4
    have hfl := kids_len h3
    rw [List.length_map] at hfl
    refine T.lp (ι := Int × List Tag × Int × GTmk) (fun q => 0 ≤ q.1 ∧ q.1 ≤ t.fields.length ∧ q.2.2.2 = x ∧ ∃ c : Nat, Kids (SubT h x.types.l) ((t.fields.map fun f => f.ty).drop q.1.toNat) c e ∧ i + 1 ≤ c ∧ (left - 1 - ((c : Int) - (i + 1)) ≤ q.2.2.1 ∧ q.2.2.1 ≤ left - 1) ∧ q.2.1 = l ++ ((t.fields.take q.1.toNat).flatMap fun f => bgs h x.types.l f.ty) ∧ q.2.1.length ≤ l.length + (c - (i + 1))) (fun q => ((t.fields.length : Int) - q.1).toNat) ⟨Int.le_refl _, by dsimp only; omega, rfl, i + 1, h3, Nat.le_refl _, ⟨by dsimp only; omega, by dsimp only; omega⟩, by dsimp only; simp, by dsimp only; omega⟩ (by dsimp only; omega) fun L q ⟨q1, q2, q3, c, q4, q5, ⟨q6, q7⟩, q8, q9⟩ hL => ?_
    obtain ⟨k, d, lf, z⟩ := q
    dsimp only at q1 q2 q3 q4 q5 q6 q7 q8 q9 hL ⊢
    subst q3
    have hce := Kids.le SubT.le' q4
    refine T.br (fun hb => ?_) fun hb => T.some ⟨rfl, ⟨by dsimp only; omega, by dsimp only; omega⟩, ?_⟩
    · have hb := of_decide_eq_true hb
      refine T.get q1 hb fun f hf => ?_
      have hnx := take_flat (f := fun f : GFld => bgs h z.types.l f.ty) hf
      rw [drop_map (fun f : GFld => f.ty) q1 hf] at q4
      obtain ⟨c', k0, k1, k2⟩ := q4
      have hc' := k1.lt
      have hce' := Kids.le SubT.le' k2
      have k0 : f.ty = (c : Int) := k0
      have hbl1 := bgs_len k1
      rw [k0]
      refine T.cal (ih (l := d) k1 (by omega) hl (by omega) (by omega) (by omega)) fun r _ ⟨r1, ⟨r2, r3⟩, r4⟩ => T.ck (by omega) (hL _ ⟨by dsimp only; omega, by dsimp only; omega, r1, c', k2, by omega, ⟨by dsimp only; omega, by dsimp only; omega⟩, ?_, ?_⟩ (by dsimp only; omega))
      · dsimp only
        rw [r4, show (k + 1).toNat = k.toNat + 1 by omega, hnx, q8, k0, List.append_assoc]
      · dsimp only
        rw [r4, List.length_append]; omega
    · have hb := of_decide_eq_false hb
      dsimp only
      rw [q8, List.take_of_length_le (by omega)]
theorem fuel_16 {h : Nat} (hh : h ≤ 1000) : h ≤ fuel := by unfold fuel; omega
theorem wildS_tot {h i j : Nat} {x : GTmk} (hs : SubT h x.types.l i j) (hh : h ≤ 1000) (hl : x.types.l.length ≤ 300) : T (fun r => r.2 = x) (table_types_wild x (i : Int)) := by
  have := hs.inb
  unfold table_types_wild
  exact T.cal (inner_tot hs (fuel_16 hh) (by omega) (by omega) (by omega)) fun r _ ⟨r1, _⟩ => T.some r1
theorem beginsS_eq {h i j : Nat} {x : GTmk} (hs : SubT h x.types.l i j) (hh : h ≤ 1000) (hl : x.types.l.length ≤ 300) : table_types_begins x (i : Int) = some (bgs h x.types.l (i : Int), x) := by
  have := hs.inb
  refine T.eqs ?_
  unfold table_types_begins
  exact T.cal (inner1_tot (l := []) hs (fuel_16 hh) (by omega) (by omega) (by omega) (by simp only [List.length_nil]; omega)) fun r _ ⟨r1, _, r3⟩ => T.some (by rw [r1, r3]; rfl)
theorem toldS_T {h a b : Nat} {x : GTmk} {fs : List GFld} {o : Bool} (hk : Kids (SubT h x.types.l) (fs.map fun f => f.ty) a b) (hh : h ≤ 1000) (hl : x.types.l.length ≤ 300) (hb : b ≤ x.types.l.length) : T (fun r => r.2 = x ∧ (r.1 = true → (fs.flatMap fun f => bgs h x.types.l f.ty).Nodup)) (table_types_told x fs o) := by
  have hfl := kids_len hk
  rw [List.length_map] at hfl
  unfold table_types_told
  refine T.lp (ι := List (List Tag) × Int × GTmk) (fun q => 0 ≤ q.2.1 ∧ q.2.1 ≤ fs.length ∧ q.2.2 = x ∧ (q.1.length : Int) = q.2.1 ∧ q.1.flatten = (fs.take q.2.1.toNat).flatMap fun f => bgs h x.types.l f.ty) (fun q => ((fs.length : Int) - q.2.1).toNat) ⟨Int.le_refl _, by dsimp only; omega, rfl, rfl, rfl⟩ (by dsimp only; omega) fun L q ⟨q1, q2, q3, q4, q5⟩ hL => ?_
  obtain ⟨s, k, z⟩ := q
  dsimp only at q1 q2 q3 q4 q5 hL ⊢
  subst q3
  refine T.br (fun hb1 => ?_) fun hb1 => ?_
  · have hb1 := of_decide_eq_true hb1
    refine T.get q1 hb1 fun f hf => ?_
    obtain ⟨c, d, e1, e2, e3, e4⟩ := Kids.mem3 SubT.le' hk (List.mem_map.2 ⟨f, List.mem_of_getElem? hf, rfl⟩)
    have hnx := take_flat (f := fun f : GFld => bgs h z.types.l f.ty) hf
    rw [e1]
    refine T.cal (wildS_tot e2 hh hl) fun r _ hr => ?_
    rw [hr]
    refine T.jp (fun _ => True) (fun J hJ => T.br (fun _ => T.jp (fun _ => True) (fun J2 h2 => T.br (fun _ => h2 _ trivial) fun _ => h2 _ trivial) fun _ _ => hJ _ trivial) fun _ => hJ _ trivial) fun b2 _ => T.br (fun _ => T.some ⟨rfl, fun e => by cases e⟩) fun _ => T.eq (beginsS_eq e2 hh hl) (T.abl (by simp only [List.length_singleton]; omega) (T.ck (by omega) (hL _ ⟨by dsimp only; omega, by dsimp only; omega, rfl, by dsimp only; rw [List.length_append, List.length_singleton]; omega, ?_⟩ (by dsimp only; omega))))
    dsimp only
    rw [show (k + 1).toNat = k.toNat + 1 by omega, hnx, List.flatten_append, q5, e1]
    simp
  · have hb1 := of_decide_eq_false hb1
    rw [List.take_of_length_le (by omega)] at q5
    exact T.eq (y := decide s.flatten.Nodup) rfl (T.some ⟨rfl, fun e => by rw [← q5]; exact of_decide_eq_true e⟩)
theorem looseS_tot {t : GTyp} {k : Int} (h0 : 0 ≤ k) (h1 : k < t.fields.length) : T (fun _ => True) (table_Loose t k) := by
  unfold table_Loose
  exact T.get h0 h1 fun y _ => T.jp (fun _ => True) (fun J hJ => T.br (fun _ => hJ _ trivial) fun _ => T.get h0 h1 fun _ _ => hJ _ trivial) fun _ _ => T.jp (fun _ => True) (fun J hJ => T.br (fun _ => hJ _ trivial) fun _ => hJ _ trivial) fun _ _ => T.some trivial
theorem lastS_tot {t : GTyp} (hl : t.fields.length ≤ 1000) : T (fun (r : Int) => 0 ≤ r ∧ r ≤ t.fields.length) (table_Last t) := by
  unfold table_Last
  refine T.lp (fun (k : Int) => 0 ≤ k ∧ k ≤ t.fields.length) (fun (k : Int) => k.toNat) (by omega) (by omega) fun L k ⟨k1, k2⟩ hL => ?_
  refine T.jp (fun b => b = true → 0 < k) (fun J hJ => T.br (fun h => T.ck (by have := of_decide_eq_true h; omega) (T.cal (looseS_tot (by have := of_decide_eq_true h; omega) (by omega)) fun _ _ _ => hJ _ fun _ => of_decide_eq_true h)) fun _ => hJ _ fun e => by cases e) fun b hb => T.br (fun h => T.ck (by have := hb h; omega) (hL _ (by have := hb h; omega) (by have := hb h; omega))) fun _ => T.some ⟨k1, k2⟩
theorem apartS_T {h a b : Nat} {x : GTmk} {t : GTyp} (hk : Kids (SubT h x.types.l) (t.fields.map fun f => f.ty) a b) (hh : h ≤ 1000) (hl : x.types.l.length ≤ 300) (hb : b ≤ x.types.l.length) : T (fun r => r.2 = x ∧ (r.1 = true → t.kind ≠ 7 → (t.fields.flatMap fun f => bgs h x.types.l f.ty).Nodup)) (table_types_apart x t) := by
  have hfl := kids_len hk
  rw [List.length_map] at hfl
  unfold table_types_apart
  refine T.br (fun _ => T.cal (toldS_T hk hh hl hb) fun r _ ⟨r1, r2⟩ => T.some ⟨r1, fun e _ => r2 e⟩) fun h7 => ?_
  have h7 : t.kind = 7 := by simpa using h7
  have hsub : ∀ (n m : Nat) (o : Bool), T (fun r => r.2 = x) (table_types_told x ((t.fields.take n).drop m) o) := fun n m o => by
    obtain ⟨c, d, k1, k2⟩ := KidsT.sub n m hk
    rw [← List.map_take, ← List.map_drop] at k1
    exact (toldS_T k1 hh hl (by omega)).mono fun r hr => hr.1
  refine T.lp (ι := Int × GTmk) (fun q => 0 ≤ q.1 ∧ q.1 ≤ t.fields.length ∧ q.2 = x) (fun q => ((t.fields.length : Int) - q.1).toNat) ⟨Int.le_refl _, by dsimp only; omega, rfl⟩ (by dsimp only; omega) fun L q ⟨q1, q2, q3⟩ hL => ?_
  obtain ⟨k, z⟩ := q
  dsimp only at q1 q2 q3 hL ⊢
  subst q3
  refine T.br (fun hb1 => ?_) fun _ => ?_
  · have hb1 := of_decide_eq_true hb1
    refine T.jp (ι := GTmk) (fun y => y = z) (fun J hJ => T.cal (looseS_tot q1 hb1) fun _ _ _ => T.br (fun _ => hJ _ rfl) fun _ => T.ck (by omega) ?_) fun y hy => T.ck (by omega) (hL _ ⟨by dsimp only; omega, by dsimp only; omega, hy⟩ (by dsimp only; omega))
    refine T.lp (fun (e : Int) => k + 1 ≤ e ∧ e ≤ t.fields.length) (fun (e : Int) => ((t.fields.length : Int) - e).toNat) ⟨Int.le_refl _, by omega⟩ (by omega) fun L2 e ⟨e1, e2⟩ hL2 => ?_
    refine T.jp (fun b => b = true → e < t.fields.length) (fun J2 h2 => T.br (fun h3 => T.ck (by omega) (T.cal (looseS_tot (by omega) (by have := of_decide_eq_true h3; omega)) fun _ _ _ => h2 _ fun _ => of_decide_eq_true h3)) fun _ => h2 _ fun e => by cases e) fun b2 hb2 => T.br (fun h3 => T.ck (by have := hb2 h3; omega) (hL2 _ (by have := hb2 h3; omega) (by have := hb2 h3; omega))) fun _ => T.asd ⟨by omega, by omega, by omega⟩ (T.cal (hsub _ _ _) fun r _ hr => T.br (fun _ => T.some ⟨hr, fun e => by cases e⟩) fun _ => hJ _ hr)
  · refine T.jp (ι := Bool × GTmk) (fun y => y.2 = z) (fun J hJ => T.br (fun _ => hJ _ rfl) fun _ => T.cal (lastS_tot (t := t) (by omega)) fun y _ ⟨y1, y2⟩ => T.asd ⟨by omega, by omega, Int.le_refl _⟩ (T.cal (hsub _ _ _) fun r _ hr => hJ _ hr)) fun y hy => T.some ⟨hy, fun _ e => absurd h7 e⟩
end Go.Proofs.YtiibmpdjkdjbiaaGreatDoor


namespace Go.Proofs.YtiibmpdjkdjbiaaGreatDoor
open Go.Sy
set_option linter.unusedVariables false

theorem rootS (n : Int) (l : List GItem) : table_root n l = some (max 0 (min n l.length)) := rfl
theorem hasS_eq (l : List GItem) (v : Int) (hl : l.length ≤ 1000000) : table_has l v = some (hasNum l v) := by
  refine T.eqs ?_
  unfold table_has slices_ContainsFunc_Lapi_Item_api_Item
  refine T.cal (Q := fun r => r = hasNum l v) (T.cal (Q := fun (r : Int) => decide ((0 : Int) ≤ r) = hasNum l v) ?_ fun r _ hr => T.some hr) fun r _ hr => T.some hr
  unfold slices_IndexFunc_Lapi_Item_api_Item
  refine T.lp (fun (k : Int) => 0 ≤ k ∧ k ≤ (l.length : Int) ∧ hasNum l v = hasNum (l.drop k.toNat) v) (fun (k : Int) => ((l.length : Int) - k).toNat) ⟨Int.le_refl _, by omega, rfl⟩ (by omega) fun L k ⟨h1, h2, h3⟩ hL => ?_
  refine T.br (fun hb => ?_) fun hb => T.some ?_
  · have hb := of_decide_eq_true hb
    refine T.get h1 hb fun y hy => ?_
    rw [drop_cons h1 hy, hasNum_cons] at h3
    refine T.eq (y := (y.has && decide (y.number = v))) ?_ (T.br (fun h5 => T.some (by rw [h3, h5, decide_eq_true h1]; rfl)) fun h5 => T.ck (by omega) (hL _ ⟨by omega, by omega, by rw [h3, h5, Bool.false_or]⟩ (by omega)))
    refine T.eqs ?_
    unfold table_has_c1
    exact T.jp (fun b => b = (y.has && decide (y.number = v))) (fun J hJ => T.br (fun e => hJ _ (by rw [e]; rfl)) fun e => hJ _ (by rw [e]; rfl)) fun b hb => T.some hb
  · have hb := of_decide_eq_false hb
    rw [List.drop_eq_nil_of_le (by omega)] at h3
    rw [h3]; rfl
theorem behindS_tot (l : List GItem) (hl : l.length ≤ 1000000) : T (fun _ => True) (table_behind l) := by
  unfold table_behind
  refine T.br (fun _ => T.some trivial) fun h => T.get (Int.le_refl _) (by have := of_decide_eq_false h; omega) fun y _ => ?_
  refine T.lp (ι := Int × Int) (fun q => 0 ≤ q.2 ∧ q.2 ≤ l.length) (fun q => ((l.length : Int) - q.2).toNat) ⟨Int.le_refl _, by dsimp only; omega⟩ (by dsimp only; omega) fun L q ⟨q1, q2⟩ hL => ?_
  refine T.br (fun hb => ?_) fun _ => T.some trivial
  have hb := of_decide_eq_true hb
  have e := wr64_id (n := q.2 + 1) (by omega)
  exact T.get q1 hb fun z _ => hL _ ⟨by dsimp only; rw [e]; omega, by dsimp only; rw [e]; omega⟩ (by dsimp only; rw [e]; omega)
theorem numberedS_tot (n : GNode) (hil : n.items.length ≤ 8001) : T (fun r => r.1.length ≤ 8001) (table_numbered n) := by
  unfold table_numbered
  refine T.eq (rootS _ _) ?_
  obtain ⟨R, hR⟩ : ∃ R : Int, R = max 0 (min n.root n.items.length) := ⟨_, rfl⟩
  rw [← hR]
  have hR0 : 0 ≤ R ∧ R ≤ n.items.length := by omega
  have htk : (n.items.take R.toNat).drop (0 : Int).toNat = n.items.take R.toNat := rfl
  have htl : (n.items.take R.toNat).length = R.toNat := by rw [List.length_take]; omega
  refine T.lp (ι := (List GItem) × Int × Int) (fun q => 0 ≤ q.2.2 ∧ q.2.2 ≤ n.items.length ∧ (q.1.length : Int) = q.2.2 ∧ 0 ≤ q.2.1 ∧ q.2.1 + (cntGe (n.items.take R.toNat) q.2.1 : Int) ≤ q.2.2 + R) (fun q => ((n.items.length : Int) - q.2.2).toNat)
    ⟨Int.le_refl _, by dsimp only; omega, rfl, Int.le_refl _, by
      have := cntGe_le (n.items.take R.toNat) 0
      dsimp only; omega⟩ (by dsimp only; omega) fun L q ⟨h1, h2, h3, h4, h5⟩ hL => ?_
  obtain ⟨out, next, i⟩ := q
  dsimp only at h1 h2 h3 h4 h5 hL ⊢
  refine T.br (fun hb => ?_) fun hb => T.some (by dsimp only; omega)
  have hb := of_decide_eq_true hb
  refine T.get h1 hb fun y hy => ?_
  refine T.jp (ι := Int × Bool × GItem) (fun p => 0 ≤ p.1 ∧ p.1 + (cntGe (n.items.take R.toNat) p.1 : Int) ≤ i + 1 + R) (fun J h => T.br (fun _ => h _ ⟨h4, by dsimp only; omega⟩) fun _ => T.br (fun _ => ?_) fun _ => T.cal (behindS_tot out (by omega)) fun r _ _ => h _ ⟨h4, by dsimp only; omega⟩) fun p ⟨p1, p2⟩ => T.br (fun _ => T.some (Nat.zero_le _)) fun _ => T.abl (by simp only [List.length_singleton]; omega) (T.ck (by omega) (hL _ ⟨by dsimp only; omega, by dsimp only; omega, by dsimp only; rw [List.length_append, List.length_singleton]; omega, p1, p2⟩ (by dsimp only; omega)))
  refine T.lp (fun (v : Int) => 0 ≤ v ∧ v + (cntGe (n.items.take R.toNat) v : Int) ≤ i + R) (fun (v : Int) => cntGe (n.items.take R.toNat) v) ⟨h4, h5⟩ (by have := cntGe_le (n.items.take R.toNat) next; omega) fun L2 v ⟨v1, v2⟩ hL2 => ?_
  refine T.asd ⟨Int.le_refl _, hR0.1, hR0.2⟩ ?_
  rw [htk]
  refine T.eq (hasS_eq _ v (by omega)) (T.br (fun ht => T.ck (by omega) (hL2 _ ⟨by omega, ?_⟩ ?_)) fun _ => T.ck (by omega) (h _ ⟨by dsimp only; omega, ?_⟩))
  · have := cntGe_taken ht; omega
  · have := cntGe_taken ht; omega
  · have := cntGe_mono (n.items.take R.toNat) v; dsimp only; omega
theorem cont1_tot (l : List GItem) (it : GItem) (hl : l.length ≤ 1000000) : T (fun _ => True) (slices_ContainsFunc_Lapi_Item_api_Item_1 l it) := by
  unfold slices_ContainsFunc_Lapi_Item_api_Item_1
  refine T.cal (Q := fun _ => True) ?_ fun r _ _ => T.some trivial
  unfold slices_IndexFunc_Lapi_Item_api_Item_1
  refine T.lp (fun (k : Int) => 0 ≤ k ∧ k ≤ (l.length : Int)) (fun (k : Int) => ((l.length : Int) - k).toNat) ⟨Int.le_refl _, by omega⟩ (by omega) fun L k ⟨h1, h2⟩ hL => ?_
  refine T.br (fun hb => ?_) fun hb => T.some trivial
  have hb := of_decide_eq_true hb
  refine T.get h1 hb fun y hy => T.cal (Q := fun _ => True) ?_ fun r _ _ => T.br (fun _ => T.some trivial) fun _ => T.ck (by omega) (hL _ (by omega) (by omega))
  unfold table_items_c1
  exact T.jp (fun _ => True) (fun J hJ => T.br (fun _ => hJ _ trivial) fun _ => hJ _ trivial) fun _ _ => T.some trivial
theorem itemsS_tot (n : GNode) (hil : n.items.length ≤ 8001) : T (fun r => r.1.length ≤ 8001) (table_items n) := by
  unfold table_items
  refine T.cal (numberedS_tot n hil) fun r _ hr => T.br (fun _ => T.some (Nat.zero_le _)) fun _ => T.eq (rootS _ _) ?_
  refine T.lp (fun (k : Int) => 0 ≤ k ∧ k ≤ (r.1.length : Int)) (fun (k : Int) => ((r.1.length : Int) - k).toNat) ⟨Int.le_refl _, by omega⟩ (by omega) fun L k ⟨h1, h2⟩ hL => ?_
  refine T.br (fun hb => ?_) fun _ => T.some hr
  have hb := of_decide_eq_true hb
  refine T.get h1 hb fun y hy => T.asd ⟨Int.le_refl _, h1, h2⟩ (T.cal (cont1_tot _ _ (by rw [List.length_drop, List.length_take]; omega)) fun c _ _ => T.jp (fun _ => True) (fun J hJ => T.br (fun _ => hJ _ trivial) fun _ => T.jp (fun _ => True) (fun J2 h2 => T.br (fun h3 => T.ck (by have := of_decide_eq_true h3; omega) (T.get (by have := of_decide_eq_true h3; omega) (by omega) fun _ _ => h2 _ trivial)) fun _ => h2 _ trivial) fun _ _ => hJ _ trivial) fun _ _ => T.br (fun _ => T.some (Nat.zero_le _)) fun _ => T.ck (by omega) (hL _ (by omega) (by omega)))
theorem withinS_tot (c : GCon) (v : Int) : T (fun _ => True) (bounds_Within c v) := by
  unfold bounds_Within
  exact T.jp (fun _ => True) (fun J hJ => T.br (fun _ => hJ _ trivial) fun _ => T.jp (fun _ => True) (fun J2 h2 => T.br (fun _ => h2 _ trivial) fun _ => h2 _ trivial) fun _ _ => T.jp (fun _ => True) (fun J2 h2 => T.br (fun _ => T.jp (fun _ => True) (fun J3 h3 => T.br (fun _ => h3 _ trivial) fun _ => h3 _ trivial) fun _ _ => h2 _ trivial) fun _ => h2 _ trivial) fun _ _ => hJ _ trivial) fun _ _ => T.some trivial
theorem checkS_tot (c : GCon) (b : Bool) : T (fun _ => True) (bounds_Check c b) := by
  have hboth : ∀ k : GCkd, T (fun _ => True) (bounds_checked_both k) := fun k => by
    unfold bounds_checked_both
    exact T.jp (fun _ => True) (fun J hJ => T.br (fun _ => hJ _ trivial) fun _ => hJ _ trivial) fun _ _ => T.jp (fun _ => True) (fun J hJ => T.br (fun _ => hJ _ trivial) fun _ => hJ _ trivial) fun _ _ => T.some trivial
  have hcr : ∀ k : GCkd, T (fun _ => True) (bounds_checked_crossed k) := fun k => by
    unfold bounds_checked_crossed
    exact T.cal (hboth k) fun _ _ _ => T.jp (fun _ => True) (fun J hJ => T.br (fun _ => hJ _ trivial) fun _ => hJ _ trivial) fun _ _ => T.some trivial
  have hle : ∀ k : GCkd, T (fun _ => True) (bounds_checked_lengths k) := fun k => by
    unfold bounds_checked_lengths
    exact T.jp (fun _ => True) (fun J hJ => T.br (fun _ => hJ _ trivial) fun _ => hJ _ trivial) fun _ _ => T.jp (fun _ => True) (fun J hJ => T.br (fun _ => hJ _ trivial) fun _ => hJ _ trivial) fun _ _ => T.jp (fun _ => True) (fun J hJ => T.br (fun _ => T.jp (fun _ => True) (fun J2 h2 => T.br (fun _ => h2 _ trivial) fun _ => T.jp (fun _ => True) (fun J3 h3 => T.br (fun _ => h3 _ trivial) fun _ => h3 _ trivial) fun _ _ => h2 _ trivial) fun _ _ => hJ _ trivial) fun _ => hJ _ trivial) fun _ _ => T.some trivial
  unfold bounds_Check
  exact T.jp (fun _ => True) (fun J hJ => T.br (fun _ => T.cal (hcr _) fun _ _ _ => T.jp (fun _ => True) (fun J2 h2 => T.br (fun _ => h2 _ trivial) fun _ => T.jp (fun _ => True) (fun J3 h3 => T.br (fun _ => T.cal (hle _) fun _ _ _ => h3 _ trivial) fun _ => h3 _ trivial) fun _ _ => h2 _ trivial) fun _ _ => hJ _ trivial) fun _ => hJ _ trivial) fun _ _ => T.br (fun _ => T.some trivial) fun _ => T.some trivial
theorem univS_tot (k : Int) : T (fun _ => True) (tags_Universal k) := by
  unfold tags_Universal
  refine T.jp (fun _ => True) (fun J hJ => T.br (fun _ => hJ _ trivial) fun _ => T.br (fun _ => hJ _ trivial) fun _ => T.br (fun _ => hJ _ trivial) fun _ => T.br (fun _ => hJ _ trivial) fun _ => T.br (fun _ => hJ _ trivial) fun _ => T.br (fun _ => hJ _ trivial) fun _ => T.jp (fun _ => True) (fun J2 h2 => T.br (fun _ => h2 _ trivial) fun _ => h2 _ trivial) fun _ _ => T.br (fun _ => hJ _ trivial) fun _ => T.br (fun _ => hJ _ trivial) fun _ => hJ _ trivial) fun _ _ => T.some trivial
theorem wrapS0 (tags : List Tag) (n mode : Int) (hl : tags.length ≤ 100000) : T (fun r => r.2 = 0 → r.1 ≠ [] ∧ r.1.length ≤ tags.length + 1) (tags_Wrap tags n mode) := by
  unfold tags_Wrap
  refine T.jp (fun _ => True) (fun J k => T.br (fun _ => k _ trivial) fun _ => k _ trivial) fun b1 _ => ?_
  refine T.jp (fun b => b = false → (mode = 1 → 0 < tags.length)) (fun J k => T.br (fun _ => k _ fun h => by cases h) fun _ => ?_) fun b2 hb2 => T.br (fun _ => T.some fun h => by cases h) fun h2 => ?_
  · refine T.jp (fun b => b = false → (mode = 1 → 0 < tags.length)) (fun J2 k2 => T.br (fun _ => k2 _ fun h _ => ?_) fun h => k2 _ fun _ hm => absurd hm (of_decide_eq_false h)) fun b hb => k _ hb
    have := of_decide_eq_false h
    omega
  · have h2 := hb2 h2
    refine T.jp (ι := List Tag) (fun l => l.length ≤ tags.length) (fun J k => T.br (fun h => T.asd ⟨by omega, by have := h2 (of_decide_eq_true h); omega, by omega⟩ (k _ (by rw [List.length_drop, List.length_take]; omega))) fun _ => k _ (Nat.le_refl _)) fun l hl2 => ?_
    refine T.eq (y := [⟨2, n⟩] ++ l) ?_ (T.some fun _ => ⟨by simp, by simp only [List.length_append, List.length_singleton]; omega⟩)
    unfold slices_Concat_Lapi_Tag_api_Tag
    have e : ([[⟨2, n⟩], l] : List (List Tag)).flatten = [⟨2, n⟩] ++ l := by simp
    rw [e, Nat.ble_eq_true_of_le (by simp only [List.length_append, List.length_singleton]; omega)]; rfl
theorem softS_tot {x : GTmk} {i : Nat} (hi : i < x.types.l.length) : T (fun r => r.2 = x) (table_maker_soft x (i : Int)) := by
  unfold table_maker_soft
  refine T.asd ⟨by omega, by omega⟩ ?_
  rw [Int.toNat_natCast]
  exact T.eq (List.getElem?_eq_getElem hi) (T.br (fun _ => T.some rfl) fun _ => T.some rfl)
def WpS (x y : GTmk) (i : Nat) (t : GTyp) (e : Int) : Prop := y.m = x.m ∧ y.types.l.length = x.types.l.length ∧ (e = 0 → ∃ tg : List Tag, y.types.l = x.types.l.set i { t with tags := tg } ∧ tg ≠ [] ∧ tg.length ≤ t.tags.length + 1)
theorem wrapS_tot {x : GTmk} {i : Nat} {t : GTyp} (n mode : Int) (ht : x.types.l[i]? = some t) (htl : t.tags.length ≤ 100000) : T (fun r => WpS x r.2 i t r.1) (table_maker_wrap x (i : Int) n mode) := by
  have hi := (List.getElem?_eq_some_iff.1 ht).1
  have hg : x.types.l[((i : Nat) : Int).toNat]? = some t := by rw [Int.toNat_natCast]; exact ht
  unfold table_maker_wrap
  refine T.asd ⟨by omega, by omega⟩ (T.eq hg (T.cal (wrapS0 t.tags n mode htl) fun r _ hr => ?_))
  refine T.jp (ι := GTmk) (fun y => WpS x y i t r.2) (fun J hJ => T.br (fun h => T.asd ⟨by omega, by omega⟩ (T.eq hg (hJ _ ?_))) fun h => hJ _ ⟨rfl, rfl, fun e => absurd e (of_decide_eq_false h)⟩) fun y hy => T.some hy
  have h := of_decide_eq_true h
  obtain ⟨h1, h2⟩ := hr h
  rw [Int.toNat_natCast]
  exact ⟨rfl, by dsimp only; rw [List.length_set], fun _ => ⟨r.1, rfl, h1, h2⟩⟩
theorem markedS_tot {x : GTmk} {i : Nat} {t : GTyp} (k : GMark) (ht : x.types.l[i]? = some t) (htl : t.tags.length ≤ 100000) : T (fun r => r.2 = x ∨ WpS x r.2 i t r.1) (table_maker_marked x (i : Int) k) := by
  have hi := (List.getElem?_eq_some_iff.1 ht).1
  unfold table_maker_marked
  refine T.br (fun _ => T.some (.inl rfl)) fun _ => T.jp (ι := Int × GTmk) (fun q => q.2 = x) (fun J hJ => T.br (fun _ => hJ _ rfl) fun _ => T.jp (fun _ => True) (fun J2 h2 => T.br (fun _ => h2 _ trivial) fun _ => h2 _ trivial) fun _ _ => T.br (fun _ => T.cal (softS_tot hi) fun r _ hr => hJ _ hr) fun _ => hJ _ rfl) fun q hq => ?_
  rw [hq]
  exact T.cal (wrapS_tot _ _ ht htl) fun r _ hr => T.some (.inr hr)
theorem cloneS (b : List UInt8) (hb : b.length ≤ 1000000) : slices_Clone_Lbyte_byte b = some b := by
  refine T.eqs ?_
  unfold slices_Clone_Lbyte_byte
  cases b with
  | nil => exact T.brT rfl (T.some rfl)
  | cons a r => exact T.brF rfl (T.abl (by simp only [List.length_nil, Nat.zero_add]; omega) (T.some rfl))
theorem index2_tot (l : List GItem) (v : Val) (hl : l.length ≤ 1000000) : T (fun (r : Int × Val) => r.2 = v ∧ r.1 < l.length) (slices_IndexFunc_Lapi_Item_api_Item_2 l v) := by
  unfold slices_IndexFunc_Lapi_Item_api_Item_2
  refine T.lp (ι := Int × Val) (fun q => 0 ≤ q.1 ∧ q.1 ≤ (l.length : Int) ∧ q.2 = v) (fun q => ((l.length : Int) - q.1).toNat) ⟨Int.le_refl _, by dsimp only; omega, rfl⟩ (by dsimp only; omega) fun L q ⟨h1, h2, h3⟩ hL => ?_
  obtain ⟨k, w⟩ := q
  dsimp only at h1 h2 h3 hL ⊢
  subst h3
  refine T.br (fun hb => ?_) fun hb => T.some ⟨rfl, by dsimp only; omega⟩
  have hb := of_decide_eq_true hb
  refine T.get h1 hb fun y hy => T.eq (y := (decide (y.name = ⟨w.b⟩), w)) rfl (T.br (fun _ => T.some ⟨rfl, hb⟩) fun _ => T.ck (by omega) (hL _ ⟨by dsimp only; omega, by dsimp only; omega, rfl⟩ (by dsimp only; omega)))
theorem standardS_tot {x : GTmk} {i : Nat} {t : GTyp} (v : Val) (ht : x.types.l[i]? = some t) (hv : DOk v) (hil : t.items.length ≤ 8001) : T (fun r => r.2.2 = x ∧ (r.2.1 = true → r.1.kind = t.kind)) (table_maker_standard x (i : Int) v) := by
  have hi := (List.getElem?_eq_some_iff.1 ht).1
  have hb := hv.1
  unfold table_maker_standard
  refine T.asd ⟨by omega, by omega⟩ (T.eq (y := t) (by rw [Int.toNat_natCast]; exact ht) (T.br (fun _ => T.some ⟨rfl, fun e => by cases e⟩) fun hk => T.eq (cloneS v.b (by omega)) ?_))
  have hk : v.kind = t.kind := by simpa using hk
  refine T.jp (ι := Val) (fun _ => True) (fun J hJ => ?_) fun _ _ => T.some ⟨rfl, fun e => by cases e⟩
  refine T.jp (fun _ => True) (fun J2 h2 => T.br (fun _ => h2 _ trivial) fun _ => h2 _ trivial) fun _ _ => T.br (fun _ => T.some ⟨rfl, fun _ => hk⟩) fun _ => T.br (fun _ => T.cal (withinS_tot _ _) fun _ _ _ => T.some ⟨rfl, fun _ => hk⟩) fun _ => T.br (fun _ => T.cal (withinS_tot _ _) fun _ _ _ => T.some ⟨rfl, fun _ => hk⟩) fun _ => T.br (fun _ => T.cal (withinS_tot _ _) fun _ _ _ => T.jp (fun _ => True) (fun J2 h2 => T.br (fun _ => T.cal (utf8_tot _ (by omega)) fun _ _ _ => h2 _ trivial) fun _ => h2 _ trivial) fun _ _ => T.some ⟨rfl, fun _ => hk⟩) fun _ => T.br (fun h3 => ?_) fun _ => hJ _ trivial
  have h3 := of_decide_eq_true h3
  refine T.eq (rootS _ _) (T.asd ⟨Int.le_refl _, by omega, by omega⟩ (T.cal (index2_tot _ _ (by rw [List.length_drop, List.length_take]; omega)) fun r _ ⟨r1, r2⟩ => T.br (fun h0 => ?_) fun _ => hJ _ trivial))
  have h0 := of_decide_eq_true h0
  rw [List.length_drop, List.length_take] at r2
  exact T.get h0 (by omega) fun y _ => T.some ⟨rfl, fun _ => h3.symm⟩
theorem names_tot (l : List GFld) (f : GFld) (hl : l.length ≤ 100000) : T (fun r => r.2 = f) (slices_ContainsFunc_Lapi_Field_api_Field_1 l f) := by
  unfold slices_ContainsFunc_Lapi_Field_api_Field_1
  refine T.cal (Q := fun r => r.2 = f) ?_ fun r _ hr => T.some hr
  unfold slices_IndexFunc_Lapi_Field_api_Field_1
  refine T.lp (ι := Int × GFld) (fun q => 0 ≤ q.1 ∧ q.1 ≤ l.length ∧ q.2 = f) (fun q => ((l.length : Int) - q.1).toNat) ⟨Int.le_refl _, by dsimp only; omega, rfl⟩ (by dsimp only; omega) fun L q ⟨k1, k2, k3⟩ hL => ?_
  obtain ⟨k, g⟩ := q
  dsimp only at k1 k2 k3 hL ⊢
  subst k3
  refine T.br (fun hb => ?_) fun _ => T.some rfl
  have hb := of_decide_eq_true hb
  exact T.get k1 hb fun z hz => T.eq (y := (decide (z.name = g.name), g)) rfl (T.br (fun _ => T.some rfl) fun _ => T.ck (by omega) (hL _ ⟨by dsimp only; omega, by dsimp only; omega, rfl⟩ (by dsimp only; omega)))
theorem autS_tot (x : GTmk) (n : GNode) (hl : n.fields.length ≤ 100000) : T (fun r => r.2 = x) (table_maker_automatic x n) := by
  unfold table_maker_automatic
  refine T.jp (ι := Bool × GTmk) (fun q => q.2 = x) (fun J hJ => T.br (fun _ => ?_) fun _ => hJ _ rfl) fun q hq => T.some hq
  unfold slices_ContainsFunc_Lapi_Field_api_Field
  refine T.cal (Q := fun r => r.2 = x) (T.cal (Q := fun r => r.2 = x) ?_ fun r _ hr => T.some hr) fun r _ hr => hJ _ hr
  unfold slices_IndexFunc_Lapi_Field_api_Field
  refine T.lp (ι := Int × GTmk) (fun q => 0 ≤ q.1 ∧ q.1 ≤ n.fields.length ∧ q.2 = x) (fun q => ((n.fields.length : Int) - q.1).toNat) ⟨Int.le_refl _, by dsimp only; omega, rfl⟩ (by dsimp only; omega) fun L q ⟨q1, q2, q3⟩ hL => ?_
  obtain ⟨k, z⟩ := q
  dsimp only at q1 q2 q3 hL ⊢
  subst q3
  refine T.br (fun hb => ?_) fun _ => T.some rfl
  have hb := of_decide_eq_true hb
  refine T.get q1 hb fun f _ => T.cal (Q := fun r => r.2 = z) ?_ fun r _ hr => T.br (fun _ => T.some hr) fun _ => T.ck (by omega) (hL _ ⟨by dsimp only; omega, by dsimp only; omega, hr⟩ (by dsimp only; omega))
  unfold table_maker_automatic_c1
  exact T.jp (fun b => b = true → 0 ≤ f.ty ∧ f.ty < z.m.nodes.length) (fun J2 h2 => T.br (fun h => h2 _ fun h3 => ⟨of_decide_eq_true h, of_decide_eq_true h3⟩) fun _ => h2 _ fun e => by cases e) fun b hb2 => T.jp (fun _ => True) (fun J2 h2 => T.br (fun h => T.get (hb2 h).1 (hb2 h).2 fun _ _ => h2 _ trivial) fun _ => h2 _ trivial) fun _ _ => T.some rfl
theorem addS_eq {x : GTmk} (t : GTyp) (h : x.types.l.length ≤ 300) : table_types_add x t = some ((x.types.l.length : Int), ⟨⟨x.types.l ++ [t]⟩, x.m⟩) := by
  refine T.eqs ?_
  unfold table_types_add
  have e : (x.types.l ++ [t]).length = x.types.l.length + 1 := by rw [List.length_append, List.length_singleton]
  refine T.jp (ι := GTmk) (fun q => q = ⟨⟨x.types.l ++ [t]⟩, x.m⟩) (fun J hJ => T.abl (by simp only [List.length_singleton]; omega) (hJ _ rfl)) fun q hq => ?_
  subst hq
  dsimp only
  have e2 : (((x.types.l ++ [t]).length : Nat) : Int) - 1 = x.types.l.length := by omega
  rw [e2]
  exact T.ck (by omega) (T.some rfl)
end Go.Proofs.YtiibmpdjkdjbiaaGreatDoor


namespace Go.Proofs.YtiibmpdjkdjbiaaGreatDoor
open Go.Sy
set_option linter.unusedVariables false

def SpP (l : List GTyp) (p b : Nat) (t : GTyp) : Prop :=
  (∃ c h, c ≤ b ∧ h ≤ 17 ∧ Kids (SubT h l) (t.fields.map fun f => f.ty) (p + 1) c ∧ (t.kind ≠ 7 → (t.fields.flatMap fun f => bgs h l f.ty).Nodup)) ∧ ((1 ≤ t.kind ∧ t.kind ≤ 10) ∧ (t.kind ≠ 9 → t.tags ≠ [])) ∧
  (∀ f ∈ t.fields, (f.has = true → ∃ u, l[f.ty.toNat]? = some u ∧ u.kind = f.dflt.kind) ∧ ¬ (f.has = true ∧ f.optional = true)) ∧ (t.kind = 10 → ∃ o : Nat, t.of = (o : Int) ∧ p < o ∧ o < b)
def SpR (l : List GTyp) (a b : Nat) : Prop := ∀ (p : Nat) t, a ≤ p → p < b → l[p]? = some t → SpP l p b t
theorem SpP.up {l : List GTyp} {p b b' : Nat} {t : GTyp} (h : SpP l p b t) (k : b ≤ b') : SpP l p b' t := by
  obtain ⟨⟨c, d, h1, h2⟩, h3, h4, h5⟩ := h
  exact ⟨⟨c, d, by omega, h2⟩, h3, h4, fun e => by obtain ⟨o, o1, o2, o3⟩ := h5 e; exact ⟨o, o1, o2, by omega⟩⟩
theorem SpP.loc {l l' : List GTyp} {p b : Nat} {t t' : GTyp} (h : SpP l p b t) (hl : ∀ k, p + 1 ≤ k → k < b → l'[k]? = l[k]?) (hf : t'.fields = t.fields) (hk : t'.kind = t.kind) (ho : t'.of = t.of) (ht : t'.kind ≠ 9 → t'.tags ≠ []) : SpP l' p b t' := by
  obtain ⟨⟨c, d, h1, h2, h3, h6⟩, h4, h5, h7⟩ := h
  have hl' : ∀ k, p + 1 ≤ k → k < c → l'[k]? = l[k]? := fun k k1 k2 => hl k k1 (by omega)
  refine ⟨⟨c, d, h1, h2, by rw [hf]; exact KidsT.monoL hl' h3, fun e => ?_⟩, ⟨by rw [hk]; exact h4.1, ht⟩, fun f hf' => ?_, fun e => by rw [ho]; exact h7 (by rw [← hk]; exact e)⟩
  · rw [hf]
    have := h6 (by rw [← hk]; exact e)
    rw [flat_cg (q := fun f => bgs d l f.ty) fun f hm => ?_]
    · exact this
    · obtain ⟨a, b', e1, e2, e3, e4⟩ := Kids.mem3 SubT.le' h3 (List.mem_map.2 ⟨f, hm, rfl⟩)
      rw [e1]
      exact (bgs_loc (fun k k1 k2 => hl' k (by omega) (by omega)) e2).1
  · rw [hf] at hf'
    obtain ⟨g1, g2⟩ := h5 f hf'
    refine ⟨fun e => ?_, g2⟩
    obtain ⟨u, u1, u2⟩ := g1 e
    obtain ⟨a, b', e1, e2, e3, e4⟩ := Kids.mem3 SubT.le' h3 (List.mem_map.2 ⟨f, hf', rfl⟩)
    have := e2.lt
    exact ⟨u, by rw [hl' _ (by omega) (by omega)]; exact u1, u2⟩
theorem SpR.nil {l : List GTyp} {a : Nat} : SpR l a a := fun p t h1 h2 => by omega
theorem SpP.tg {l : List GTyp} {p b : Nat} {t : GTyp} (h : SpP l p b t) : t.kind ≠ 9 → t.tags ≠ [] := h.2.1.2
theorem SpR.mono {l l' : List GTyp} {a b : Nat} (hl : ∀ k, a ≤ k → k < b → l'[k]? = l[k]?) (h : SpR l a b) : SpR l' a b := fun p t h1 h2 e => by
  have := h p t h1 h2 (by rw [← hl p h1 h2]; exact e)
  exact this.loc (fun k k1 k2 => hl k (by omega) k2) rfl rfl rfl this.tg
theorem SpR.app {l : List GTyp} {a b c : Nat} (h : SpR l a b) (k : SpR l b c) (hbc : b ≤ c) : SpR l a c := fun p t h1 h2 e => by
  by_cases hp : p < b
  · exact (h p t h1 hp e).up hbc
  · exact k p t (by omega) h2 e
theorem SpR.cons {l : List GTyp} {i j : Nat} {t : GTyp} (e : l[i]? = some t) (h : SpP l i j t) (k : SpR l (i + 1) j) : SpR l i j := fun p u h1 h2 e2 => by
  by_cases hp : p = i
  · subst hp; rw [e] at e2; cases e2; exact h
  · exact k p u (by omega) h2 e2
theorem SpR.set {l : List GTyp} {i j : Nat} {t : GTyp} {tg : List Tag} (h : SpR l i j) (hij : i < j) (e : l[i]? = some t) (ht : tg ≠ []) : SpR (l.set i { t with tags := tg }) i j := by
  have hi := (List.getElem?_eq_some_iff.1 e).1
  refine SpR.cons (List.getElem?_set_self hi) ((h i t (Nat.le_refl _) hij e).loc (fun k k1 k2 => List.getElem?_set_ne (by omega)) rfl rfl rfl fun _ => ht) ?_
  exact SpR.mono (fun k k1 k2 => List.getElem?_set_ne (by omega)) fun p u h1 h2 => h p u (by omega) h2

structure GrT (x y : GTmk) : Prop where
  m : y.m = x.m
  le : x.types.l.length ≤ y.types.l.length
  lim : y.types.l.length ≤ 300
theorem GrT.refl {x : GTmk} (h : x.types.l.length ≤ 300) : GrT x x := ⟨rfl, Nat.le_refl _, h⟩
theorem GrT.trans {x y z : GTmk} (h : GrT x y) (k : GrT y z) : GrT x z := ⟨k.m.trans h.m, Nat.le_trans h.le k.le, k.lim⟩
def Ad (x y : GTmk) (D : Nat) : Prop := (∀ k, k < x.types.l.length → y.types.l[k]? = x.types.l[k]?) ∧ SubT D y.types.l x.types.l.length y.types.l.length ∧ SpR y.types.l x.types.l.length y.types.l.length
def NodeP (m : GMod) (rk : Int → Nat) (f : GTmk → Int → Int → Option (Int × Int × GTmk)) (N : Nat) : Prop :=
  ∀ (x : GTmk) (k j h : Nat) (a d : Int), x.m = m → x.types.l.length ≤ 300 → Sub h m.nodes k j → j ≤ m.nodes.length → Dn m a k j → rk a * 301 + (j - k) ≤ N → 0 ≤ d → d ≤ 17 →
  T (fun r => GrT x r.2.2 ∧ (r.2.1 = 0 → r.1 = (x.types.l.length : Int) ∧ Ad x r.2.2 (17 - d).toNat ∧ ∃ t, r.2.2.types.l[x.types.l.length]? = some t ∧ t.tags.length ≤ N + 1)) (f x (k : Int) d)
def MadeP (m : GMod) (rk : Int → Nat) (f : GTmk → GNode → Int → Option (Int × Int × GTmk)) (N : Nat) : Prop :=
  ∀ (x : GTmk) (n : GNode) (k j h : Nat) (a d : Int), x.m = m → x.types.l.length ≤ 300 → m.nodes[k]? = some n → n.kind ≠ 11 → Sub h m.nodes k j → j ≤ m.nodes.length → Dn m a k j → rk a * 301 + (j - k) ≤ N → 0 ≤ d → d ≤ 17 →
  T (fun r => GrT x r.2.2 ∧ (r.2.1 = 0 → r.1 = (x.types.l.length : Int) ∧ Ad x r.2.2 (17 - d).toNat ∧ ∃ t, r.2.2.types.l[x.types.l.length]? = some t ∧ t.tags.length ≤ 1)) (f x n d)
def FieldP (m : GMod) (rk : Int → Nat) (f : GTmk → GNode → Int → Int → Bool → Option (GFld × Int × GTmk)) (N : Nat) : Prop :=
  ∀ (x : GTmk) (n : GNode) (i c j h : Nat) (a d : Int) (auto : Bool) (f0 : GFld), x.m = m → x.types.l.length ≤ 300 → n.fields[i]? = some f0 → n.fields.length ≤ 1000 → f0.ty = (c : Int) → Sub h m.nodes c j → j ≤ m.nodes.length → Dn m a c j → rk a * 301 + (j - c) + 1 ≤ N → FD f0 → 0 ≤ d → d ≤ 16 →
  T (fun r => GrT x r.2.2 ∧ (r.2.1 = 0 → (r.1.ty = (x.types.l.length : Int) ∧ r.1.has = f0.has ∧ r.1.optional = f0.optional) ∧ Ad x r.2.2 (16 - d).toNat ∧ (r.1.has = true → ∃ u, r.2.2.types.l[x.types.l.length]? = some u ∧ u.kind = r.1.dflt.kind))) (f x n (i : Int) d auto)
def FieldsP (m : GMod) (rk : Int → Nat) (f : GTmk → Int → GNode → Int → Option (Int × GTmk)) (N : Nat) : Prop :=
  ∀ (x : GTmk) (n : GNode) (k j h : Nat) (a d : Int) (l0 : List GTyp) (t : GTyp), x.m = m → x.types.l = l0 ++ [t] → x.types.l.length ≤ 300 → m.nodes[k]? = some n → Kids (Sub h m.nodes) (n.fields.map fun f => f.ty) (k + 1) j → j ≤ m.nodes.length → Dn m a k j → rk a * 301 + (j - k) ≤ N → 0 ≤ d → d ≤ 16 →
    (n.kind = 7 ∨ n.kind = 8 ∨ n.kind = 9) → t.kind = n.kind → (t.kind ≠ 9 → t.tags ≠ []) →
  T (fun r => GrT x r.2 ∧ (r.1 = 0 → (∀ p, p < l0.length → r.2.types.l[p]? = l0[p]?) ∧ ∃ fs, r.2.types.l[l0.length]? = some { t with fields := fs } ∧ Kids (SubT (16 - d).toNat r.2.types.l) (fs.map fun f => f.ty) x.types.l.length r.2.types.l.length ∧ SpR r.2.types.l l0.length r.2.types.l.length)) (f x (l0.length : Int) n d)

theorem SubT.first {D : Nat} {l : List GTyp} {i j : Nat} {t : GTyp} (h : SubT D l i j) (e : l[i]? = some t) : TypOk t := by
  cases D with
  | zero => exact h.elim
  | succ D =>
    obtain ⟨u, k1, k2, _⟩ := h
    rw [e] at k1; cases k1; exact k2
theorem Ad.tag {x y z : GTmk} {D : Nat} {t : GTyp} {e : Int} (h : Ad x y D) (ht : y.types.l[x.types.l.length]? = some t) (htl : t.tags.length ≤ 90000) (hz : WpS y z x.types.l.length t e) (he : e = 0) : Ad x z D ∧ ∃ u, z.types.l[x.types.l.length]? = some u ∧ u.tags.length ≤ t.tags.length + 1 ∧ u.kind = t.kind := by
  obtain ⟨z1, z2, z3⟩ := hz
  obtain ⟨tg, k1, k2, k3⟩ := z3 he
  have hi := (List.getElem?_eq_some_iff.1 ht).1
  refine ⟨⟨fun k hk => ?_, ?_, ?_⟩, { t with tags := tg }, by rw [k1]; exact List.getElem?_set_self hi, k3, rfl⟩
  · rw [k1, List.getElem?_set_ne (by omega)]; exact h.1 k hk
  · rw [z2, k1]; exact h.2.1.set ht ((h.2.1.first ht).tag k2 (by omega)) rfl
  · rw [z2, k1]; exact h.2.2.set hi ht k2
theorem rk_step {U p q N : Nat} (h : U + q ≤ N) (hp : p + 1 ≤ q) : U + p + 1 ≤ N := by omega
theorem rk_step2 {U p q N : Nat} (h : U + q ≤ N) (hp : p + 1 ≤ q) : U + p ≤ N - 1 := by omega
theorem node_stepP {m : GMod} {rk : Int → Nat} {Fd Nd Md Fs} {N : Nat} (E : Env m rk) (hN : N ≤ 50000) (hnd : ∀ N', N' + 1 = N → NodeP m rk Nd N') (hmd : MadeP m rk Md N) : NodeP m rk (table_maker_node_F Fd Nd Md Fs) N := by
  intro x k j h a d hm hx3 hs hj hdn hN2 hd0 hd
  unfold table_maker_node_F
  have hlt := hs.lt
  obtain ⟨n, hn⟩ : ∃ n, m.nodes[k]? = some n := ⟨_, List.getElem?_eq_getElem (by omega)⟩
  refine T.jp (fun b => b = false) (fun J hJ => T.brF (decide_eq_false (by omega)) (hJ _ (decide_eq_false (by rw [hm]; omega)))) fun b hb => T.brF hb (T.get (Int.natCast_nonneg _) (by rw [hm]; omega) fun n' hn' => ?_)
  rw [hm, Int.toNat_natCast, hn] at hn'
  cases hn'
  have hN0 : 1 ≤ N := by omega
  refine T.jp (ι := Int × Int × GTmk) (fun r => GrT x r.2.2 ∧ (r.2.1 = 0 → r.1 = (x.types.l.length : Int) ∧ Ad x r.2.2 (17 - d).toNat ∧ ∃ t, r.2.2.types.l[x.types.l.length]? = some t ∧ t.tags.length ≤ N)) (fun J kk => T.br (fun hk => ?_) fun hk => ?_) fun q ⟨q1, q2⟩ => ?_
  · have hk := of_decide_eq_true hk
    obtain ⟨f0, f1⟩ := hdn k n (Nat.le_refl _) hlt hn hk
    have hf2 : fnd m.names n.name < m.names.length := by
      rcases fnd_spec m.names n.name with h | h
      · omega
      · exact h.2.1
    obtain ⟨c, dd, c1, c2, c3, c4⟩ := E.root _ f0 (by omega)
    have hrk := E.ed _ _ f1
    have hwn := E.wf.nodes
    have hc := c2.lt
    have hNN : rk (fnd m.names n.name) * 301 + (dd - c) ≤ N - 1 := rank_le hrk hN2 (Nat.sub_pos_of_lt hlt) (Nat.le_trans (Nat.sub_le _ _) (Nat.le_trans c3 hwn))
    refine T.eq (find_eq x.m n.name (by rw [hm]; have := E.wf.names; omega)) ?_
    rw [hm]
    refine T.jp (fun b => b = false) (fun J hJ => T.brF (decide_eq_false (by omega)) (hJ _ (decide_eq_false (by rw [E.wf.types]; omega)))) fun b hb => T.brF hb (T.get f0 (by rw [E.wf.types]; omega) fun y hy => ?_)
    rw [c1] at hy
    cases hy
    exact T.cal (hnd (N - 1) (by omega) x c dd 17 _ d hm hx3 c2 c3 c4 hNN hd0 hd) fun r _ ⟨r1, r2⟩ => kk _ ⟨r1, fun e => by
      obtain ⟨e1, e2, t, e3, e4⟩ := r2 e
      exact ⟨e1, e2, t, e3, Nat.le_trans e4 (by rw [Nat.sub_add_cancel hN0]; exact Nat.le_refl _)⟩⟩
  · have hk := of_decide_eq_false hk
    exact T.cal (hmd x n k j h a d hm hx3 hn hk hs hj hdn hN2 hd0 hd) fun r _ ⟨r1, r2⟩ => kk _ ⟨r1, fun e => by
      obtain ⟨e1, e2, t, e3, e4⟩ := r2 e
      exact ⟨e1, e2, t, e3, Nat.le_trans e4 hN0⟩⟩
  refine T.br (fun he => T.some ⟨q1, fun e => absurd e (by simpa using he)⟩) fun he => ?_
  have he : q.2.1 = 0 := by simpa using he
  obtain ⟨e1, e2, t, e3, e4⟩ := q2 he
  rw [e1]
  refine T.cal (markedS_tot n.mark e3 (by omega)) fun r _ hr => T.some ?_
  rcases hr with hr | hr
  · rw [hr]
    exact ⟨q1, fun _ => ⟨rfl, e2, t, e3, Nat.le_succ_of_le e4⟩⟩
  · refine ⟨⟨hr.1.trans q1.m, by rw [hr.2.1]; exact q1.le, by rw [hr.2.1]; exact q1.lim⟩, fun e => ?_⟩
    obtain ⟨a1, u, a2, a3, _⟩ := e2.tag e3 (by omega) hr e
    exact ⟨rfl, a1, u, a2, by omega⟩
theorem field_stepP {m : GMod} {rk : Int → Nat} {Fd Nd Md Fs} {N : Nat} (E : Env m rk) (hN : N ≤ 50000) (hnd : ∀ N', N' + 1 = N → NodeP m rk Nd N') : FieldP m rk (table_maker_field_F Fd Nd Md Fs) N := by
  intro x n i c j h a d auto f0 hm hx3 hf hfl hty hs hj hdn hN2 hfd hd0 hd
  have hi := (List.getElem?_eq_some_iff.1 hf).1
  unfold table_maker_field_F
  refine T.get (Int.natCast_nonneg _) (by omega) fun f1 hf1 => ?_
  rw [Int.toNat_natCast, hf] at hf1
  cases hf1
  refine T.asd ⟨Int.le_refl _, Int.natCast_nonneg _, by omega⟩ (T.cal (names_tot _ f0 (by rw [List.length_drop, List.length_take]; omega)) fun r _ hr => ?_)
  rw [hr]
  refine T.br (fun _ => T.some ⟨GrT.refl hx3, fun e => absurd e (by dsimp only; decide)⟩) fun _ => T.ck (by omega) ?_
  rw [hty]
  refine T.cal (hnd (N - 1) (by omega) x c j h a (d + 1) hm hx3 hs hj hdn (Nat.le_sub_one_of_lt hN2) (by omega) (by omega)) fun r _ ⟨r1, r2⟩ => T.br (fun he => T.some ⟨r1, fun e => absurd e (by simpa using he)⟩) fun he => ?_
  have he : r.2.1 = 0 := by simpa using he
  obtain ⟨e1, e2, t, e3, e4⟩ := r2 he
  have hD : (17 - (d + 1)).toNat = (16 - d).toNat := by omega
  rw [hD] at e2
  rw [e1]
  refine T.jp (ι := GFld × GTmk) (fun q => q.2 = r.2.2 ∧ (q.1.ty = (x.types.l.length : Int) ∧ q.1.has = f0.has ∧ q.1.optional = f0.optional) ∧ (q.1.has = true → t.kind = q.1.dflt.kind)) (fun J hJ => T.br (fun h5 => ?_) fun h5 => hJ _ ⟨rfl, ⟨rfl, rfl, rfl⟩, fun e => by rw [h5] at e; cases e⟩) fun q ⟨q1, q2, q3⟩ => ?_
  · exact T.cal (standardS_tot f0.dflt e3 hfd.1 (e2.2.1.first e3).ilen) fun s _ ⟨s1, s2⟩ => T.br (fun _ => T.some ⟨by rw [s1]; exact r1, fun e => absurd e (by dsimp only; decide)⟩) fun h6 => hJ _ ⟨s1, ⟨rfl, rfl, rfl⟩, fun _ => (s2 (by simpa using h6)).symm⟩
  have hlt := (List.getElem?_eq_some_iff.1 e3).1
  refine T.jp (ι := Int × GTmk) (fun p => GrT x p.2 ∧ (p.1 = 0 → Ad x p.2 (16 - d).toNat ∧ ∃ u, p.2.types.l[x.types.l.length]? = some u ∧ u.kind = t.kind)) (fun J hJ => T.br (fun _ => ?_) fun _ => hJ _ ⟨by rw [q1]; exact r1, fun _ => by rw [q1]; exact ⟨e2, t, e3, rfl⟩⟩) fun p ⟨p1, p2⟩ => T.some ⟨p1, fun e => ?_⟩
  · rw [q1, q2.1]
    refine T.cal (softS_tot (x := r.2.2) (i := x.types.l.length) hlt) fun s _ hs => ?_
    rw [hs]
    refine T.cal (wrapS_tot (t := t) _ _ e3 (by omega)) fun w _ hw => hJ _ ⟨⟨hw.1.trans r1.m, by rw [hw.2.1]; exact r1.le, by rw [hw.2.1]; exact r1.lim⟩, fun e => ?_⟩
    obtain ⟨a1, u, a2, _, a4⟩ := e2.tag e3 (by omega) hw e
    exact ⟨a1, u, a2, a4⟩
  · obtain ⟨a1, u, a2, a3⟩ := p2 e
    exact ⟨q2, a1, fun h => ⟨u, a2, a3.trans (q3 h)⟩⟩
theorem fields_stepP {m : GMod} {rk : Int → Nat} {Fd Nd Md Fs} {N : Nat} (E : Env m rk) (hN : N ≤ 50000) (hfd : FieldP m rk Fd N) : FieldsP m rk (table_maker_fields_F Fd Nd Md Fs) N := by
  intro x n k j h a d l0 t hm hxl hx3 hk hkid hj hdn hN2 hd0 hd hkind htk htt
  have hok := E.wf.ok n (List.mem_of_getElem? hk)
  have hkl := Kids.length hkid
  have hnl := E.wf.nodes
  rw [List.length_map] at hkl
  have hxlen : x.types.l.length = l0.length + 1 := by rw [hxl, List.length_append, List.length_singleton]
  unfold table_maker_fields_F
  refine T.jp (fun _ => True) (fun J hJ => T.br (fun _ => hJ _ trivial) fun _ => hJ _ trivial) fun _ _ => T.jp (fun _ => True) (fun J hJ => T.br (fun _ => hJ _ trivial) fun _ => hJ _ trivial) fun _ _ => T.br (fun _ => T.some ⟨GrT.refl hx3, fun e => absurd e (by dsimp only; decide)⟩) fun _ => T.cal (autS_tot x n (by omega)) fun au _ hau => ?_
  rw [hau]
  refine T.lp (ι := List GFld × Int × GTmk) (fun q => 0 ≤ q.2.1 ∧ q.2.1 ≤ n.fields.length ∧ GrT x q.2.2 ∧ (q.1.length : Int) = q.2.1 ∧ (∀ p, p < x.types.l.length → q.2.2.types.l[p]? = x.types.l[p]?) ∧ Kids (SubT (16 - d).toNat q.2.2.types.l) (q.1.map fun f => f.ty) x.types.l.length q.2.2.types.l.length ∧ SpR q.2.2.types.l x.types.l.length q.2.2.types.l.length ∧ ∀ f ∈ q.1, (f.has = true → ∃ u, q.2.2.types.l[f.ty.toNat]? = some u ∧ u.kind = f.dflt.kind) ∧ ¬ (f.has = true ∧ f.optional = true)) (fun q => ((n.fields.length : Int) - q.2.1).toNat)
    ⟨Int.le_refl _, by dsimp only; omega, GrT.refl hx3, rfl, fun _ _ => rfl, rfl, SpR.nil, fun f hf => by cases hf⟩ (by dsimp only; omega) fun L q ⟨q1, q2, q3, q4, q5, q6, q7, q8⟩ hL => ?_
  obtain ⟨out, i, y⟩ := q
  dsimp only at q1 q2 q3 q4 q5 q6 q7 q8 hL ⊢
  refine T.br (fun hb => ?_) fun hb => ?_
  · have hb := of_decide_eq_true hb
    obtain ⟨i, rfl⟩ : ∃ i' : Nat, i = i' := ⟨i.toNat, by omega⟩
    obtain ⟨f0, hf0⟩ : ∃ f, n.fields[i]? = some f := ⟨_, List.getElem?_eq_getElem (by omega)⟩
    have hfm := List.mem_of_getElem? hf0
    obtain ⟨c, dd, h1, h2, h3, h4⟩ := Kids.subs hkid (List.mem_map.2 ⟨f0, hfm, rfl⟩)
    have hclt := h2.lt
    have hlim := q3.lim
    have hyle := q3.le
    refine T.cal (hfd y n i c dd h a d au.1 f0 (q3.m.trans hm) hlim hf0 (by omega) h1 h2 (by omega) (hdn.part (by omega) h4) (rk_step hN2 (by omega)) (hok.dflt f0 hfm) hd0 hd) fun r _ ⟨r1, r2⟩ => T.br (fun he => T.some ⟨q3.trans r1, fun e => absurd e (by simpa using he)⟩) fun he => ?_
    have he : r.2.1 = 0 := by simpa using he
    obtain ⟨⟨e1, e2, e3⟩, ⟨a1, a2, a3⟩, e4⟩ := r2 he
    have hrle := r1.le
    refine T.abl (by simp only [List.length_singleton]; omega) (T.ck (by omega) (hL _ ⟨by dsimp only; omega, by dsimp only; omega, q3.trans r1, by dsimp only; rw [List.length_append, List.length_singleton]; omega, fun p hp => ?_, ?_, ?_, fun f hf => ?_⟩ (by dsimp only; omega)))
    · dsimp only
      rw [a1 p (by omega)]; exact q5 p hp
    · dsimp only
      rw [List.map_append, List.map_singleton, e1]
      exact Kids.snoc (KidsT.monoL (fun q _ hq => a1 q hq) q6) a2
    · dsimp only
      exact SpR.app (SpR.mono (fun q _ hq => a1 q hq) q7) a3 hrle
    · dsimp only at hf ⊢
      rcases List.mem_append.1 hf with hf | hf
      · obtain ⟨g1, g2⟩ := q8 f hf
        refine ⟨fun e => ?_, g2⟩
        obtain ⟨u, u1, u2⟩ := g1 e
        exact ⟨u, by rw [a1 _ (List.getElem?_eq_some_iff.1 u1).1]; exact u1, u2⟩
      · rw [List.mem_singleton.1 hf, e2, e3]
        refine ⟨fun e => ?_, (hok.dflt f0 hfm).2⟩
        obtain ⟨u, u1, u2⟩ := e4 (e2.trans e)
        exact ⟨u, by rw [e1, Int.toNat_natCast]; exact u1, u2⟩
  · have hb := of_decide_eq_false hb
    have hle := q3.le
    have hlim := q3.lim
    have hget : y.types.l[l0.length]? = some t := by rw [q5 _ (by omega), hxl, List.getElem?_append_right (Nat.le_refl _), Nat.sub_self]; rfl
    have hti : ((l0.length : Nat) : Int).toNat = l0.length := Int.toNat_natCast _
    have hget2 : (y.types.l.set l0.length { t with fields := out })[l0.length]? = some { t with fields := out } := List.getElem?_set_self (by omega)
    have hmono : ∀ q, l0.length + 1 ≤ q → (y.types.l.set l0.length { t with fields := out })[q]? = y.types.l[q]? := fun q hq => List.getElem?_set_ne (by omega)
    have hkids : Kids (SubT (16 - d).toNat (y.types.l.set l0.length { t with fields := out })) (out.map fun f => f.ty) x.types.l.length y.types.l.length := KidsT.monoL (fun q hq1 hq2 => hmono q (by omega)) q6
    refine T.asd ⟨by omega, by omega⟩ ?_
    rw [hti]
    refine T.eq hget (T.asd ⟨by omega, by rw [List.length_set]; omega⟩ (T.eq hget2 ?_))
    refine T.cal (apartS_T (h := (16 - d).toNat) (x := ⟨⟨y.types.l.set l0.length { t with fields := out }⟩, y.m⟩) (t := { t with fields := out }) hkids (by omega) (by dsimp only; rw [List.length_set]; omega) (by dsimp only; rw [List.length_set]; exact Nat.le_refl _)) fun r _ ⟨hr1, hr2⟩ => ?_
    rw [hr1]
    have hg : GrT x ⟨⟨y.types.l.set l0.length { t with fields := out }⟩, y.m⟩ := ⟨q3.m, by dsimp only; rw [List.length_set]; exact hle, by dsimp only; rw [List.length_set]; exact hlim⟩
    refine T.br (fun _ => T.some ⟨hg, fun e => absurd e (by dsimp only; decide)⟩) fun h9 => T.some ⟨hg, fun _ => ⟨fun p hp => ?_, out, hget2, ?_, ?_⟩⟩
    · dsimp only
      rw [List.getElem?_set_ne (by omega), q5 p (by omega), hxl, List.getElem?_append_left hp]
    · dsimp only
      rw [List.length_set]; exact hkids
    · dsimp only
      rw [List.length_set]
      refine SpR.cons hget2 ⟨⟨y.types.l.length, (16 - d).toNat, Nat.le_refl _, by omega, hxlen ▸ hkids, hr2 (by simpa using h9)⟩, ⟨by dsimp only; omega, htt⟩, fun f hf => ?_, fun e => absurd e (by dsimp only; omega)⟩ (SpR.mono (fun q hq1 hq2 => hmono q hq1) (hxlen ▸ q7))
      obtain ⟨g1, g2⟩ := q8 f hf
      refine ⟨fun e => ?_, g2⟩
      obtain ⟨u, u1, u2⟩ := g1 e
      obtain ⟨c, c', e1, e2, e3, _⟩ := Kids.mem3 SubT.le' q6 (List.mem_map.2 ⟨f, hf, rfl⟩)
      exact ⟨u, by rw [hmono _ (by omega)]; exact u1, u2⟩
theorem snoc_get' {α : Type} (l : List α) (t : α) : (l ++ [t])[l.length]? = some t := by rw [List.getElem?_append_right (Nat.le_refl _), Nat.sub_self]; rfl
theorem made_stepP {m : GMod} {rk : Int → Nat} {Fd Nd Md Fs} {N : Nat} (E : Env m rk) (hN : N ≤ 50000) (hnd : ∀ N', N' + 1 = N → NodeP m rk Nd N') (hfs : FieldsP m rk Fs N) : MadeP m rk (table_maker_made_F Fd Nd Md Fs) N := by
  intro x n k j h a d hm hx3 hn hk11 hs hj hdn hN2 hd0 hd
  unfold table_maker_made_F
  have hlt := hs.lt
  have hok := E.wf.ok n (List.mem_of_getElem? hn)
  have hkn := E.wf.kinds k n (Nat.zero_le _) (by omega) hn
  obtain ⟨h', rfl, hkid⟩ : ∃ h', h = h' + 1 ∧ Kids (Sub h' m.nodes) (kidsOf n) (k + 1) j := by
    cases h with
    | zero => exact hs.elim
    | succ h' =>
      obtain ⟨n', e1, e2⟩ := hs
      rw [hn] at e1; cases e1
      exact ⟨h', rfl, e2⟩
  refine T.jp (fun b => b = false → d ≤ 16 ∧ x.types.l.length < 300) (fun J kk => T.br (fun _ => kk _ fun h => by cases h) fun h1 => kk _ fun h2 => ?_) fun b hb => T.br (fun _ => T.some ⟨GrT.refl hx3, fun e => absurd e (by dsimp only; decide)⟩) fun hb1 => ?_
  · have h1 := of_decide_eq_false h1
    have h2 := of_decide_eq_false h2
    omega
  obtain ⟨hd16, hx300⟩ := hb hb1
  obtain ⟨D, hD, hD2⟩ : ∃ D, (17 - d).toNat = D + 1 ∧ (16 - d).toNat = D := ⟨(16 - d).toNat, by omega, rfl⟩
  have hD3 : (17 - (d + 1)).toNat = D := by omega
  refine T.jp (ι := GTyp) (fun t => New n t) (fun J kk => T.br (fun _ => T.cal (univS_tot _) fun u _ _ => kk _ ⟨rfl, rfl, rfl, rfl, fun _ => by simp, by simp⟩) fun h9 => kk _ ⟨rfl, rfl, rfl, rfl, fun h => absurd (by simpa using h9) h, by simp⟩) fun t ht => ?_
  refine T.eq (addS_eq t (by omega)) ?_
  have hxl1 : (x.types.l ++ [t]).length = x.types.l.length + 1 := by rw [List.length_append, List.length_singleton]
  have hkind := ht.kind
  have g0 : GrT x ⟨⟨x.types.l ++ [t]⟩, x.m⟩ := ⟨rfl, by dsimp only; omega, by dsimp only; omega⟩
  have hti : ((x.types.l.length : Nat) : Int).toNat = x.types.l.length := Int.toNat_natCast _
  have htok : ∀ (o : Int) (its : List GItem), its.length ≤ 8001 → TypOk { t with of := o, items := its } := fun o its hi => ⟨ht.tags, by have := ht.tlen; dsimp only; omega, fun _ => ht.fields, hi⟩
  -- a leaf
  have hleaf : ∀ (its : List GItem), its.length ≤ 8001 → n.kind ≠ 10 → Ad x ⟨⟨x.types.l ++ [{ t with items := its }]⟩, x.m⟩ (D + 1) ∧ ∃ u, (x.types.l ++ [{ t with items := its }])[x.types.l.length]? = some u ∧ u.tags.length ≤ 1 := fun its hi h10 => by
    have hxl2 : (x.types.l ++ [{ t with items := its }]).length = x.types.l.length + 1 := by rw [List.length_append, List.length_singleton]
    refine ⟨⟨fun k hk => List.getElem?_append_left hk, ?_, ?_⟩, _, snoc_get' _ _, ht.tlen⟩
    · dsimp only
      rw [hxl2]
      refine ⟨_, snoc_get' _ _, htok t.of its hi, ?_⟩
      unfold kidsT
      dsimp only
      rw [ht.fields, if_neg (by rw [hkind]; exact h10)]
      rfl
    · dsimp only
      rw [hxl2]
      refine SpR.cons (snoc_get' _ _) ⟨⟨_, 0, Nat.le_refl _, by omega, by dsimp only; rw [ht.fields]; rfl, fun _ => by dsimp only; rw [ht.fields]; exact List.nodup_nil⟩, ⟨by dsimp only; omega, ht.tags⟩, fun f hf => ?_, fun e => absurd e (by dsimp only; omega)⟩ SpR.nil
      dsimp only at hf
      rw [ht.fields] at hf; cases hf
  have hleaf0 : n.kind ≠ 10 → Ad x ⟨⟨x.types.l ++ [t]⟩, x.m⟩ (D + 1) ∧ ∃ u, (x.types.l ++ [t])[x.types.l.length]? = some u ∧ u.tags.length ≤ 1 := fun h10 => by
    have := hleaf t.items (by rw [ht.items]; exact Nat.zero_le _) h10
    exact this
  refine T.jp (ι := Int × GTmk) (fun p => GrT x p.2 ∧ (p.1 = 0 → Ad x p.2 (17 - d).toNat ∧ ∃ u, p.2.types.l[x.types.l.length]? = some u ∧ u.tags.length ≤ 1)) (fun J kk => ?_) fun p ⟨p1, p2⟩ => T.some ⟨p1, fun e => ⟨rfl, p2 e⟩⟩
  rw [hD] at kk ⊢
  refine T.br (fun h2 => T.cal (checkS_tot _ _) fun ce _ _ => kk _ ⟨g0, fun _ => hleaf0 (by have := of_decide_eq_true h2; omega)⟩) fun h2 => ?_
  refine T.jp (fun b => b = true → n.kind = 5 ∨ n.kind = 6) (fun J2 k2 => T.br (fun h => k2 _ fun _ => .inl (of_decide_eq_true h)) fun _ => k2 _ fun h => .inr (of_decide_eq_true h)) fun b5 hb5 => T.br (fun h5 => T.cal (checkS_tot _ _) fun ce _ _ => kk _ ⟨g0, fun _ => hleaf0 (by have := hb5 h5; omega)⟩) fun h5 => ?_
  refine T.br (fun h10 => ?_) fun h10 => ?_
  · -- a list
    have h10 := of_decide_eq_true h10
    refine T.cal (checkS_tot _ _) fun ce _ _ => T.br (fun hc => ?_) fun hc => kk _ ⟨g0, fun e => absurd e (of_decide_eq_false hc)⟩
    have hko : kidsOf n = n.fields.map (fun f => f.ty) ++ [n.of] := by unfold kidsOf; rw [if_neg hk11, if_pos h10]
    obtain ⟨c, dd, c1, c2, c3, c4⟩ := Kids.subs hkid (k := n.of) (by rw [hko]; simp)
    have hc := c2.lt
    refine T.ck (by omega) ?_
    rw [c1]
    refine T.cal (hnd (N - 1) (by omega) ⟨⟨x.types.l ++ [t]⟩, x.m⟩ c dd h' a (d + 1) hm (by dsimp only; omega) c2 (by omega) (hdn.part (by omega) c4) (rk_step2 hN2 (by omega)) (by omega) (by omega)) fun r _ ⟨r1, r2⟩ => ?_
    have g1 : GrT x r.2.2 := g0.trans r1
    have hr1le := r1.le
    dsimp only at hr1le
    have hl1 : x.types.l.length < r.2.2.types.l.length := by omega
    obtain ⟨u, hu⟩ : ∃ u, r.2.2.types.l[x.types.l.length]? = some u := ⟨_, List.getElem?_eq_getElem hl1⟩
    refine T.asd ⟨by omega, by omega⟩ ?_
    rw [hti]
    refine T.eq hu (kk _ ⟨⟨g1.m, by dsimp only; rw [List.length_set]; exact g1.le, by dsimp only; rw [List.length_set]; exact g1.lim⟩, fun e => ?_⟩)
    obtain ⟨e1, ⟨a1, a2, a3⟩, _⟩ := r2 e
    dsimp only at e1 a1 a2 a3
    have hut : u = t := by
      have := a1 x.types.l.length (by omega)
      rw [snoc_get', hu] at this
      exact Option.some.inj this
    subst hut
    have hset : ∀ q, x.types.l.length + 1 ≤ q → (r.2.2.types.l.set x.types.l.length { u with of := r.1 })[q]? = r.2.2.types.l[q]? := fun q hq => List.getElem?_set_ne (by omega)
    rw [hxl1] at e1 a2 a3
    refine ⟨⟨fun q hq => ?_, ?_, ?_⟩, _, List.getElem?_set_self hl1, ht.tlen⟩
    · dsimp only
      rw [List.getElem?_set_ne (by omega), a1 q (by omega), List.getElem?_append_left hq]
    · dsimp only
      rw [List.length_set]
      refine ⟨_, List.getElem?_set_self hl1, htok r.1 u.items (by rw [ht.items]; exact Nat.zero_le _), ?_⟩
      have hk2 : kidsT { u with of := r.1, items := u.items } = [r.1] := by
        unfold kidsT
        dsimp only
        rw [ht.fields, if_pos (by rw [hkind]; exact h10)]
        rfl
      rw [hD3] at a2
      rw [hk2]
      exact ⟨_, e1, SubT.mono (fun q hq _ => hset q hq) a2, rfl⟩
    · dsimp only
      rw [List.length_set]
      refine SpR.cons (List.getElem?_set_self hl1) ⟨⟨x.types.l.length + 1, 0, by omega, by omega, by dsimp only; rw [ht.fields]; rfl, fun _ => by dsimp only; rw [ht.fields]; exact List.nodup_nil⟩, ⟨by dsimp only; omega, ht.tags⟩, fun f hf => ?_, fun _ => ⟨x.types.l.length + 1, e1, by omega, ?_⟩⟩ (SpR.mono (fun q hq _ => hset q hq) a3)
      · dsimp only at hf
        rw [ht.fields] at hf; cases hf
      · have := a2.lt; omega
  have h10 := of_decide_eq_false h10
  refine T.br (fun h3 => ?_) fun h3 => ?_
  · refine T.cal (itemsS_tot n hok.ilen) fun r _ hr => T.asd ⟨by omega, by dsimp only; omega⟩ ?_
    rw [hti]
    refine T.eq (y := t) (snoc_get' _ _) (kk _ ⟨⟨rfl, by dsimp only; rw [List.length_set]; omega, by dsimp only; rw [List.length_set]; omega⟩, fun _ => ?_⟩)
    have e : (x.types.l ++ [t]).set x.types.l.length { t with items := r.1 } = x.types.l ++ [{ t with items := r.1 }] := by
      rw [List.set_append_right _ _ (Nat.le_refl _), Nat.sub_self]; rfl
    rw [e]
    exact hleaf r.1 hr h10
  refine T.jp (fun b => b = true → n.kind = 7 ∨ n.kind = 8 ∨ n.kind = 9) (fun J2 k2 => T.br (fun h => k2 _ fun _ => .inl (of_decide_eq_true h)) fun _ => T.br (fun h => k2 _ fun _ => .inr (.inl (of_decide_eq_true h))) fun _ => k2 _ fun h => .inr (.inr (of_decide_eq_true h))) fun b7 hb7 => T.br (fun h7 => ?_) fun _ => kk _ ⟨g0, fun _ => hleaf0 h10⟩
  have h7 := hb7 h7
  have hko : kidsOf n = n.fields.map (fun f => f.ty) := by unfold kidsOf; rw [if_neg hk11, if_neg h10, List.append_nil]
  rw [hko] at hkid
  refine T.cal (hfs ⟨⟨x.types.l ++ [t]⟩, x.m⟩ n k j h' a d x.types.l t hm rfl (by dsimp only; omega) hn hkid hj hdn hN2 hd0 hd16 h7 hkind ht.tags) fun r _ ⟨r1, r2⟩ => kk _ ⟨g0.trans r1, fun e => ?_⟩
  obtain ⟨a1, fs, a2, a3, a4⟩ := r2 e
  dsimp only at a3
  refine ⟨⟨fun q hq => a1 q hq, ?_, a4⟩, _, a2, ht.tlen⟩
  refine ⟨_, a2, ⟨ht.tags, by have := ht.tlen; dsimp only; omega, fun e => absurd (by dsimp only; rw [hkind]; exact h7) e, by dsimp only; rw [ht.items]; exact Nat.zero_le _⟩, ?_⟩
  unfold kidsT
  dsimp only
  rw [if_neg (by rw [hkind]; exact h10), List.append_nil]
  rw [hD2, hxl1] at a3
  exact a3
theorem makerS_tot {m : GMod} {rk : Int → Nat} (E : Env m rk) : ∀ N, N ≤ 30000 →
    (∀ n, 4 * N + 1 ≤ n → FieldP m rk (table_maker_field n) N) ∧ (∀ n, 4 * N + 2 ≤ n → FieldsP m rk (table_maker_fields n) N) ∧ (∀ n, 4 * N + 3 ≤ n → MadeP m rk (table_maker_made n) N) ∧ (∀ n, 4 * N + 4 ≤ n → NodeP m rk (table_maker_node n) N) := by
  intro N
  induction N with
  | zero =>
    intro _
    have hfd : ∀ n, 1 ≤ n → FieldP m rk (table_maker_field n) 0 := fun n hn => by
      obtain ⟨n, rfl⟩ : ∃ n', n = n' + 1 := ⟨n - 1, by omega⟩
      exact field_stepP (Fd := table_maker_field n) (Nd := table_maker_node n) (Md := table_maker_made n) (Fs := table_maker_fields n) E (by omega) fun N' h => by omega
    have hfs : ∀ n, 2 ≤ n → FieldsP m rk (table_maker_fields n) 0 := fun n hn => by
      obtain ⟨n, rfl⟩ : ∃ n', n = n' + 1 := ⟨n - 1, by omega⟩
      exact fields_stepP (Fd := table_maker_field n) (Nd := table_maker_node n) (Md := table_maker_made n) (Fs := table_maker_fields n) E (by omega) (hfd n (by omega))
    have hmd : ∀ n, 3 ≤ n → MadeP m rk (table_maker_made n) 0 := fun n hn => by
      obtain ⟨n, rfl⟩ : ∃ n', n = n' + 1 := ⟨n - 1, by omega⟩
      exact made_stepP (Fd := table_maker_field n) (Nd := table_maker_node n) (Md := table_maker_made n) (Fs := table_maker_fields n) E (by omega) (fun N' h => by omega) (hfs n (by omega))
    refine ⟨fun n hn => hfd n (by omega), fun n hn => hfs n (by omega), fun n hn => hmd n (by omega), fun n hn => ?_⟩
    obtain ⟨n, rfl⟩ : ∃ n', n = n' + 1 := ⟨n - 1, by omega⟩
    exact node_stepP (Fd := table_maker_field n) (Nd := table_maker_node n) (Md := table_maker_made n) (Fs := table_maker_fields n) E (by omega) (fun N' h => by omega) (hmd n (by omega))
  | succ N ih =>
    intro hN
    obtain ⟨_, _, _, ihn⟩ := ih (by omega)
    have hnd : ∀ n, 4 * N + 4 ≤ n → ∀ N', N' + 1 = N + 1 → NodeP m rk (table_maker_node n) N' := fun n hn N' h => by
      have : N' = N := by omega
      subst this; exact ihn n hn
    have hfd : ∀ n, 4 * (N + 1) + 1 ≤ n → FieldP m rk (table_maker_field n) (N + 1) := fun n hn => by
      obtain ⟨n, rfl⟩ : ∃ n', n = n' + 1 := ⟨n - 1, by omega⟩
      exact field_stepP (Fd := table_maker_field n) (Nd := table_maker_node n) (Md := table_maker_made n) (Fs := table_maker_fields n) E (by omega) (hnd n (by omega))
    have hfs : ∀ n, 4 * (N + 1) + 2 ≤ n → FieldsP m rk (table_maker_fields n) (N + 1) := fun n hn => by
      obtain ⟨n, rfl⟩ : ∃ n', n = n' + 1 := ⟨n - 1, by omega⟩
      exact fields_stepP (Fd := table_maker_field n) (Nd := table_maker_node n) (Md := table_maker_made n) (Fs := table_maker_fields n) E (by omega) (hfd n (by omega))
    have hmd : ∀ n, 4 * (N + 1) + 3 ≤ n → MadeP m rk (table_maker_made n) (N + 1) := fun n hn => by
      obtain ⟨n, rfl⟩ : ∃ n', n = n' + 1 := ⟨n - 1, by omega⟩
      exact made_stepP (Fd := table_maker_field n) (Nd := table_maker_node n) (Md := table_maker_made n) (Fs := table_maker_fields n) E (by omega) (hnd n (by omega)) (hfs n (by omega))
    refine ⟨hfd, hfs, hmd, fun n hn => ?_⟩
    obtain ⟨n, rfl⟩ : ∃ n', n = n' + 1 := ⟨n - 1, by omega⟩
    exact node_stepP (Fd := table_maker_field n) (Nd := table_maker_node n) (Md := table_maker_made n) (Fs := table_maker_fields n) E (by omega) (hnd n (by omega)) (hmd n (by omega))
end Go.Proofs.YtiibmpdjkdjbiaaGreatDoor


namespace Go.Proofs.YtiibmpdjkdjbiaaGreatDoor
open Go.Sy
set_option linter.unusedVariables false

theorem tx {β : Type} {o : Option β} {x : β} (h : T (fun r => r = x) o) : o = some x := by
  obtain ⟨r, h1, h2⟩ := h; rw [h1, h2]
def hd : List UInt8 → UInt8
  | [] => 0
  | c :: _ => c
theorem hd_drop (b : List UInt8) (n : Nat) : hd (b.drop n) = (b[n]?).getD 0 := by
  rcases Nat.lt_or_ge n b.length with h | h
  · rw [List.drop_eq_getElem_cons h, List.getElem?_eq_getElem h]; rfl
  · rw [List.drop_eq_nil_of_le h, List.getElem?_eq_none h]; rfl
theorem dropc {b : List UInt8} {n : Nat} {y : UInt8} (h : b[n]? = some y) : b.drop n = y :: b.drop (n + 1) := by
  obtain ⟨h1, h2⟩ := List.getElem?_eq_some_iff.1 h
  rw [List.drop_eq_getElem_cons h1, h2]
theorem at_eq (s : Str) (i : Int) (h : 0 ≤ i) : r04_at s i = some (hd (s.b.drop i.toNat)) := by
  obtain ⟨r, h1, h2⟩ := at_tot s i
  rw [h1, h2, if_pos h, hd_drop]

/-! ### White -/
inductive Wst where
  | out
  | start
  | ins
  | fin
def isWh (c : UInt8) : Bool := decide (c = 32) || decide (c = 9) || decide (c = 10) || decide (c = 13)
def wh : Wst → List UInt8 → List UInt8
  | _, [] => []
  | .out, c :: r => bif isWh c then wh .out r else bif decide (c = 45) && decide (hd r = 45) then wh .start r else c :: r
  | .start, _ :: r => wh .ins r
  | .ins, c :: r => bif decide (c = 10) then wh .out r else bif decide (c = 45) && decide (hd r = 45) then wh .fin r else wh .ins r
  | .fin, _ :: r => wh .out r
theorem hd_ne {b : List UInt8} {n : Nat} (h : hd (b.drop n) = 45) : n < b.length := by
  rcases Nat.lt_or_ge n b.length with h2 | h2
  · exact h2
  · rw [List.drop_eq_nil_of_le h2] at h; cases h
theorem skip1 {b : List UInt8} {n : Nat} (h : n < b.length) : ∃ c, b.drop n = c :: b.drop (n + 1) := ⟨_, List.drop_eq_getElem_cons h⟩
theorem white_eq (s : Str) (i : Int) (h0 : 0 ≤ i) (h1 : i ≤ s.b.length) (hl : s.b.length ≤ 1000000) : r04_white s i = some ((s.b.length : Int) - ((wh .out (s.b.drop i.toNat)).length : Int)) := by
  refine tx ?_
  unfold r04_white
  refine T.lp (fun k => i ≤ k ∧ k ≤ s.b.length ∧ wh .out (s.b.drop k.toNat) = wh .out (s.b.drop i.toNat)) (fun k => (s.b.length - k).toNat) ⟨Int.le_refl _, h1, rfl⟩ (by omega) fun L k ⟨k1, k2, k3⟩ hL => ?_
  rw [← k3] at hL ⊢
  refine T.br (fun hb => ?_) (fun hb => T.some ?_)
  rotate_left
  · have hb := of_decide_eq_false hb
    rw [List.drop_eq_nil_of_le (by omega)]
    simp only [wh, List.length_nil]; omega
  have hb := of_decide_eq_true hb
  refine T.get (by omega) hb fun y hy => ?_
  have e := dropc hy
  have e1 : (k + 1).toNat = k.toNat + 1 := by omega
  refine T.jp (fun q => q = (decide (y = 32) || decide (y = 9))) (fun J h => T.br (fun h2 => h _ (by rw [h2]; rfl)) fun h2 => T.get (by omega) hb fun y' hy' => h _ (by rw [hy] at hy'; cases hy'; rw [h2]; rfl)) fun q hq => ?_
  refine T.jp (fun q' => q' = (q || decide (y = 10))) (fun J h => T.br (fun h2 => h _ (by rw [h2]; rfl)) fun h2 => T.get (by omega) hb fun y' hy' => h _ (by rw [hy] at hy'; cases hy'; rw [h2]; rfl)) fun q' hq' => ?_
  refine T.jp (fun q2 => q2 = (q' || decide (y = 13))) (fun J h => T.br (fun h2 => h _ (by rw [h2]; rfl)) fun h2 => T.get (by omega) hb fun y' hy' => h _ (by rw [hy] at hy'; cases hy'; rw [h2]; rfl)) fun q2 hq2 => ?_
  have hw : q2 = isWh y := by rw [hq2, hq', hq]; rfl
  refine T.br (fun h2 => T.ck (by omega) ?_) fun h2 => ?_
  · refine hL _ ⟨by omega, by omega, ?_⟩ (by omega)
    rw [e1, e]; simp only [wh, ← hw, h2, cond_true]
  refine T.get (by omega) hb fun y' hy' => ?_
  rw [hy] at hy'; cases hy'
  refine T.jp (fun q => q = (decide (y = 45) && decide (hd (s.b.drop (k.toNat + 1)) = 45))) (fun J h => T.br (fun h3 => T.ck (by omega) (T.eq (at_eq s _ (by omega)) (h _ (by rw [h3, e1]; rfl)))) fun h3 => h _ (by rw [h3]; rfl)) fun q3 hq3 => ?_
  refine T.br (fun h3 => T.ck (by omega) ?_) (fun h3 => T.some ?_)
  rotate_left
  · rw [e]; simp only [wh, ← hw, h2, cond_false, ← hq3, h3, List.length_cons, List.length_drop]; omega
  have h45 : hd (s.b.drop (k.toNat + 1)) = 45 := by rw [hq3] at h3; simpa using (Bool.and_eq_true_iff.1 h3).2
  have hlt := hd_ne h45
  obtain ⟨c, ec⟩ := skip1 hlt
  have e2 : (k + 2).toNat = k.toNat + 1 + 1 := by omega
  have hins : wh .out (s.b.drop k.toNat) = wh .ins (s.b.drop (k + 2).toNat) := by
    rw [e, e2]; simp only [wh, ← hw, h2, cond_false, ← hq3, h3, cond_true]; rw [ec]; simp only [wh]
  refine T.lp (fun j => k + 2 ≤ j ∧ j ≤ s.b.length ∧ wh .out (s.b.drop k.toNat) = wh .ins (s.b.drop j.toNat)) (fun j => (s.b.length - j).toNat) ⟨Int.le_refl _, by omega, hins⟩ (by omega) fun L2 j ⟨j1, j2, j3⟩ hL2 => ?_
  refine T.jp (fun q => (q = true → j < s.b.length ∧ ∀ y, s.b[j.toNat]? = some y → y ≠ 10) ∧ (q = false → wh .out (s.b.drop j.toNat) = wh .ins (s.b.drop j.toNat))) (fun J h => T.br (fun h4 => ?_) fun h4 => h _ ⟨(fun h => by cases h), fun _ => ?_⟩) fun q hq => ?_
  · have h4 := of_decide_eq_true h4
    refine T.get (by omega) h4 fun y2 hy2 => h _ ⟨fun h5 => ⟨h4, fun y3 hy3 => ?_⟩, fun h5 => ?_⟩
    · rw [hy2] at hy3; cases hy3; simpa using h5
    · have h6 : y2 = 10 := by simpa using h5
      subst h6
      rw [dropc hy2]
      simp [wh, isWh]
  · have h4 := of_decide_eq_false h4
    rw [List.drop_eq_nil_of_le (by omega)]; simp only [wh]
  refine T.br (fun h4 => ?_) (fun h4 => hL _ ⟨by omega, j2, by rw [hq.2 h4, j3]⟩ (by omega))
  obtain ⟨hj, hne⟩ := hq.1 h4
  refine T.get (by omega) hj fun y2 hy2 => ?_
  have hy10 := hne y2 hy2
  have f := dropc hy2
  have f1 : (j + 1).toNat = j.toNat + 1 := by omega
  refine T.jp (fun q => q = (decide (y2 = 45) && decide (hd (s.b.drop (j.toNat + 1)) = 45))) (fun J h => T.br (fun h3 => T.ck (by omega) (T.eq (at_eq s _ (by omega)) (h _ (by rw [h3, f1]; rfl)))) fun h3 => h _ (by rw [h3]; rfl)) fun q4 hq4 => ?_
  refine T.br (fun h5 => T.ck (by omega) ?_) (fun h5 => T.ck (by omega) (hL2 _ ⟨by omega, by omega, ?_⟩ (by omega)))
  · have h46 : hd (s.b.drop (j.toNat + 1)) = 45 := by rw [hq4] at h5; simpa using (Bool.and_eq_true_iff.1 h5).2
    have hlt2 := hd_ne h46
    obtain ⟨c2, ec2⟩ := skip1 hlt2
    have f2 : (j + 2).toNat = j.toNat + 1 + 1 := by omega
    refine hL _ ⟨by omega, by omega, ?_⟩ (by omega)
    rw [j3, f, f2]; simp only [wh, decide_eq_false hy10, cond_false, ← hq4, h5, cond_true]; rw [ec2]; simp only [wh]
  · rw [j3, f, f1]; simp only [wh, decide_eq_false hy10, cond_false, ← hq4, h5]

/-! ### Names -/
def inName (c : UInt8) (r : List UInt8) : Bool := isLetter c || isDigit c || (decide (c = 45) && !decide (hd r = 45))
def nm : List UInt8 → Nat
  | [] => 0
  | c :: r => bif inName c r then nm r + 1 else 0
theorem nm_cons (c : UInt8) (r : List UInt8) : nm (c :: r) = bif inName c r then nm r + 1 else 0 := rfl
theorem nm_le : ∀ b : List UInt8, nm b ≤ b.length
  | [] => Nat.le_refl _
  | c :: r => by
    have := nm_le r
    unfold nm
    cases inName c r <;> simp <;> omega
def nmBad (b : List UInt8) : Bool := decide ((b.take (nm b)).getLast? = some 45) || decide (60 < nm b)
theorem last_take {b : List UInt8} {n : Nat} {y : UInt8} (hn : 0 < n) (hy : b[n - 1]? = some y) : (b.take n).getLast? = some y := by
  have hlt := (List.getElem?_eq_some_iff.1 hy).1
  rw [List.getLast?_eq_getElem?, List.length_take, List.getElem?_take, Nat.min_eq_left (by omega), if_pos (by omega), hy]
theorem name_eq (s : Str) (i : Int) (h0 : 0 ≤ i) (h1 : i < s.b.length) (hl : s.b.length ≤ 1000000) (hc : isLetter (hd (s.b.drop i.toNat)) = true) :
    r04_name s i = some (bif nmBad (s.b.drop i.toNat) then -1 else i + nm (s.b.drop i.toNat)) := by
  refine tx ?_
  unfold r04_name
  have hi0 : 0 < nm (s.b.drop i.toNat) := by
    obtain ⟨c, ec⟩ := skip1 (b := s.b) (n := i.toNat) (by omega)
    rw [ec] at hc ⊢
    unfold nm inName
    simp only [hd] at hc
    rw [hc]; simp
  refine T.lp (fun k => i ≤ k ∧ k ≤ s.b.length ∧ (nm (s.b.drop i.toNat) : Int) = k - i + nm (s.b.drop k.toNat)) (fun k => (s.b.length - k).toNat) ⟨Int.le_refl _, by omega, by omega⟩ (by omega) fun L k ⟨k1, k2, k3⟩ hL => ?_
  refine T.jp (fun q => (q = true → k < s.b.length ∧ (nm (s.b.drop i.toNat) : Int) = k + 1 - i + nm (s.b.drop (k + 1).toNat)) ∧ (q = false → (nm (s.b.drop i.toNat) : Int) = k - i)) (fun J h => ?_) fun q hq => ?_
  · refine T.br (fun hb => ?_) (fun hb => h _ ⟨(fun h => by cases h), fun _ => by
      have := of_decide_eq_false hb
      rw [List.drop_eq_nil_of_le (as := s.b) (i := k.toNat) (by omega)] at k3
      simpa [nm] using k3⟩)
    have hb := of_decide_eq_true hb
    refine T.get (by omega) hb fun y hy => ?_
    have e := dropc hy
    have e1 : (k + 1).toNat = k.toNat + 1 := by omega
    refine T.eq (letter_eq y) ?_
    refine T.jp (fun q => q = (isLetter y || isDigit y)) (fun J2 h2 => T.br (fun h3 => h2 _ (by rw [h3]; rfl)) fun h3 => T.get (by omega) hb fun y2 hy2 => T.eq (digit_eq y2) (h2 _ (by rw [hy] at hy2; cases hy2; rw [h3]; rfl))) fun q hq => ?_
    refine T.jp (fun q2 => q2 = inName y (s.b.drop (k.toNat + 1))) (fun J2 h2 => T.br (fun h3 => h2 _ (by unfold inName; rw [← hq, h3]; rfl)) fun h3 => T.get (by omega) hb fun y2 hy2 => ?_) fun q2 hq2 => ?_
    · rw [hy] at hy2; cases hy2
      refine T.jp (fun q3 => q3 = (decide (y = 45) && !decide (hd (s.b.drop (k.toNat + 1)) = 45))) (fun J3 h4 => T.br (fun h5 => T.ck (by omega) (T.eq (at_eq s _ (by omega)) (h4 _ (by rw [h5, e1]; rfl)))) fun h5 => h4 _ (by rw [h5]; rfl)) fun q3 hq3 => h2 _ ?_
      unfold inName; rw [← hq, h3, hq3]; rfl
    · rw [e, nm_cons] at k3
      refine h _ ⟨fun h3 => ⟨hb, ?_⟩, fun h3 => ?_⟩
      · rw [← hq2, h3, cond_true] at k3
        rw [e1]; omega
      · rw [← hq2, h3, cond_false] at k3
        omega
  refine T.br (fun hb => T.ck (by have := hq.1 hb; omega) (hL _ ⟨by omega, by have := hq.1 hb; omega, (hq.1 hb).2⟩ (by have := hq.1 hb; omega))) fun hb => ?_
  have hn := hq.2 hb
  refine T.ck (by omega) (T.get (by omega) (by omega) fun y hy => ?_)
  have hlast : ((s.b.drop i.toNat).take (nm (s.b.drop i.toNat))).getLast? = some y := by
    refine last_take hi0 ?_
    rw [List.getElem?_drop]
    have : i.toNat + (nm (s.b.drop i.toNat) - 1) = (k - 1).toNat := by omega
    rw [this, hy]
  refine T.jp (fun q => q = nmBad (s.b.drop i.toNat)) (fun J h => T.br (fun h3 => h _ ?_) fun h3 => T.ck (by omega) (h _ ?_)) fun q hq => ?_
  · unfold nmBad
    rw [hlast]
    have := of_decide_eq_true h3
    subst this; rfl
  · unfold nmBad
    rw [hlast]
    have := of_decide_eq_false h3
    have e : decide (some y = some (45 : UInt8)) = false := by simpa using this
    rw [e, Bool.false_or, decide_eq_decide]
    omega
  · rw [← hq]
    exact T.br (fun h3 => T.some (by rw [h3]; rfl)) fun h3 => T.some (by rw [h3, cond_false]; omega)
end Go.Proofs.YtiibmpdjkdjbiaaGreatDoor


namespace Go.Proofs.YtiibmpdjkdjbiaaGreatDoor
open Go.Sy
set_option linter.unusedVariables false

theorem seg {b : List UInt8} {i k : Nat} : (b.take k).drop i = (b.drop i).take (k - i) := by rw [List.drop_take]
theorem get_drop {b : List UInt8} {i n : Nat} {y : UInt8} (h : b[i + n]? = some y) : (b.drop i)[n]? = some y := by rw [List.getElem?_drop, h]
theorem take_snoc {b : List UInt8} {n : Nat} {y : UInt8} (h : b[n]? = some y) : b.take (n + 1) = b.take n ++ [y] := by rw [List.take_add_one, h]; rfl

/-! ### Numbers -/
def dg : List UInt8 → Nat
  | [] => 0
  | c :: r => bif isDigit c then dg r + 1 else 0
theorem dg_cons (c : UInt8) (r : List UInt8) : dg (c :: r) = bif isDigit c then dg r + 1 else 0 := rfl
theorem dg_le : ∀ b : List UInt8, dg b ≤ b.length
  | [] => Nat.le_refl _
  | c :: r => by
    have := dg_le r
    rw [dg_cons]
    cases isDigit c <;> simp <;> omega
def numBad (m : Bool) (d : List UInt8) : Bool :=
  decide (dg d < 1) || decide (19 < dg d) || (decide (1 < dg d) && decide (hd d = 48)) || (m && decide (hd d = 48)) || isLetter (hd (d.drop (dg d))) ||
    decide (9223372036854775808 < uval (d.take (dg d))) || (!m && decide (uval (d.take (dg d)) = 9223372036854775808))
def numLen (b : List UInt8) : Option Nat :=
  bif decide (hd b = 45) then bif numBad true (b.drop 1) then none else some (dg (b.drop 1) + 1)
  else bif numBad false b then none else some (dg b)
theorem number_eq (s : Str) (i : Int) (h0 : 0 ≤ i) (h1 : i < s.b.length) (hl : s.b.length ≤ 1000000) :
    r04_number s i = some (match numLen (s.b.drop i.toNat) with
      | none => -1
      | some n => i + (n : Int)) := by
  refine tx ?_
  unfold r04_number
  refine T.get h0 h1 fun y1 hy1 => ?_
  have hd1 : hd (s.b.drop i.toNat) = y1 := by rw [dropc hy1]; rfl
  refine T.jp (fun f => i ≤ f ∧ f ≤ i + 1 ∧ numLen (s.b.drop i.toNat) = (bif numBad (decide (y1 = 45)) (s.b.drop f.toNat) then none else some (dg (s.b.drop f.toNat) + (f - i).toNat))) (fun J h => T.br (fun hb => T.ck (by omega) (h _ ⟨by omega, by omega, ?_⟩)) fun hb => h _ ⟨by omega, by omega, ?_⟩) fun f ⟨f1, f2, f3⟩ => ?_
  · have e1 : (i + 1).toNat = i.toNat + 1 := by omega
    have e2 : (i + 1 - i).toNat = 1 := by omega
    unfold numLen
    rw [hd1, hb, cond_true, e1, e2, List.drop_drop]
  · have e2 : (i - i).toNat = 0 := by omega
    unfold numLen
    rw [hd1, hb, cond_false, e2, Nat.add_zero]
  have hfl : f ≤ s.b.length := by omega
  have hgoal : ∀ k : Int, (dg (s.b.drop f.toNat) : Int) = k - f → (match numLen (s.b.drop i.toNat) with
      | none => -1
      | some n => i + (n : Int)) = bif numBad (decide (y1 = 45)) (s.b.drop f.toNat) then -1 else k := by
    intro k hk
    rw [f3]
    cases numBad (decide (y1 = 45)) (s.b.drop f.toNat) with
    | true => rfl
    | false =>
      show i + ((dg (s.b.drop f.toNat) + (f - i).toNat : Nat) : Int) = k
      omega
  refine T.lp (ι := Int × UInt64) (fun q => f ≤ q.1 ∧ q.1 ≤ s.b.length ∧ (dg (s.b.drop f.toNat) : Int) = q.1 - f + dg (s.b.drop q.1.toNat) ∧ (q.1 - f ≤ 19 → q.2 = uval ((s.b.drop f.toNat).take (q.1.toNat - f.toNat)))) (fun q => (s.b.length - q.1).toNat)
    ⟨Int.le_refl _, hfl, by dsimp only; omega, fun _ => by rw [Nat.sub_self]; rfl⟩ (by simp only; omega) fun L q hq hL => ?_
  obtain ⟨k, v⟩ := q
  obtain ⟨hq1, hq2, hq3, hq4⟩ := hq
  simp only at hq1 hq2 hq3 hq4 ⊢
  refine T.jp (fun b => (b = true → k < s.b.length ∧ (dg (s.b.drop f.toNat) : Int) = k + 1 - f + dg (s.b.drop (k + 1).toNat)) ∧ (b = false → (dg (s.b.drop f.toNat) : Int) = k - f)) (fun J h => ?_) fun b hb => ?_
  · refine T.br (fun h2 => ?_) fun h2 => h _ ⟨(fun h => by cases h), fun _ => ?_⟩
    · have h2 := of_decide_eq_true h2
      have ek : (k + 1).toNat = k.toNat + 1 := by omega
      refine T.get (by omega) h2 fun y hy => T.eq (digit_eq y) (h _ ?_)
      rw [dropc hy, dg_cons] at hq3
      rw [ek]
      refine ⟨fun hd => ⟨h2, ?_⟩, fun hd => ?_⟩
      · rw [hd, cond_true] at hq3; omega
      · rw [hd, cond_false] at hq3; omega
    · have h2 := of_decide_eq_false h2
      rw [List.drop_eq_nil_of_le (as := s.b) (i := k.toNat) (by omega)] at hq3
      simpa [dg] using hq3
  refine T.br (fun h2 => ?_) fun h2 => ?_
  · obtain ⟨hk, hd⟩ := hb.1 h2
    obtain ⟨y, hy⟩ : ∃ y, s.b[k.toNat]? = some y := ⟨_, List.getElem?_eq_getElem (by omega)⟩
    have hsn := take_snoc (b := s.b.drop f.toNat) (n := k.toNat - f.toNat) (y := y) (get_drop (by rw [show f.toNat + (k.toNat - f.toNat) = k.toNat by omega, hy]))
    have hk1 : (k + 1).toNat - f.toNat = k.toNat - f.toNat + 1 := by omega
    refine T.ck (by omega) (T.jp (fun u => k - f < 19 → u = 10 * v + (y - 48).toUInt64) (fun J h => T.br (fun _ => ?_) fun h3 => h _ fun h4 => by have := of_decide_eq_false h3; omega) fun u hu => T.ck (by omega) (hL _ ?_ (by simp only; omega)))
    · exact T.get (by omega) hk fun y' hy' => h _ fun _ => by rw [hy] at hy'; cases hy'; rfl
    · refine ⟨by simp only; omega, by simp only; omega, hd, fun h19 => ?_⟩
      simp only at h19 ⊢
      rw [hk1, hsn, uval_snoc, hu (by omega), hq4 (by omega)]
  have hn := hb.2 h2
  rw [hgoal k hn]
  refine T.ck (by omega) ?_
  have hdn : dg (s.b.drop f.toNat) = k.toNat - f.toNat := by omega
  have hyf : 1 ≤ k - f → ∀ y, s.b[f.toNat]? = some y → hd (s.b.drop f.toNat) = y := fun _ y hy => by rw [dropc hy]; rfl
  refine T.jp (fun b => b = (decide (dg (s.b.drop f.toNat) < 1) || decide (19 < dg (s.b.drop f.toNat)))) (fun J h => T.br (fun h3 => h _ ?_) fun h3 => h _ ?_) fun b1 hb1 => ?_
  · have := of_decide_eq_true h3; rw [decide_eq_true (by omega)]; rfl
  · have := of_decide_eq_false h3; rw [decide_eq_false (show ¬ dg (s.b.drop f.toNat) < 1 by omega), Bool.false_or, decide_eq_decide]; omega
  refine T.jp (fun b => b = (b1 || (decide (1 < dg (s.b.drop f.toNat)) && decide (hd (s.b.drop f.toNat) = 48)))) (fun J h => T.br (fun h3 => h _ (by rw [h3]; rfl)) fun h3 => ?_) fun b2 hb2 => ?_
  · refine T.jp (fun b => b = (decide (1 < dg (s.b.drop f.toNat)) && decide (hd (s.b.drop f.toNat) = 48))) (fun J3 h4 => T.br (fun h5 => ?_) fun h5 => h4 _ ?_) fun b hb => h _ (by rw [h3, hb]; rfl)
    · have h5 := of_decide_eq_true h5
      exact T.get (by omega) (by omega) fun y hy => h4 _ (by rw [decide_eq_true (show 1 < dg (s.b.drop f.toNat) by omega), hyf (by omega) y hy]; rfl)
    · have h5 := of_decide_eq_false h5
      rw [decide_eq_false (show ¬ 1 < dg (s.b.drop f.toNat) by omega)]; rfl
  refine T.jp (fun b => b = (b2 || (decide (y1 = 45) && decide (hd (s.b.drop f.toNat) = 48)))) (fun J h => T.br (fun h3 => h _ (by rw [h3]; rfl)) fun h3 => ?_) fun b3 hb3 => ?_
  · have hge : 1 ≤ k - f := by
      have e1 := (Bool.or_eq_false_iff.1 (hb2.symm.trans h3)).1
      have := of_decide_eq_false (Bool.or_eq_false_iff.1 (hb1.symm.trans e1)).1
      omega
    refine T.jp (fun b => b = (decide (y1 = 45) && decide (hd (s.b.drop f.toNat) = 48))) (fun J3 h4 => T.br (fun h5 => ?_) fun h5 => h4 _ (by rw [h5]; rfl)) fun b hb => h _ (by rw [h3, hb]; rfl)
    exact T.get (by omega) (by omega) fun y hy => h4 _ (by rw [h5, hyf hge y hy]; rfl)
  have hat : r04_at s k = some (hd ((s.b.drop f.toNat).drop (dg (s.b.drop f.toNat)))) := by
    rw [at_eq s k (by omega), List.drop_drop, hdn]
    congr 3; omega
  refine T.jp (fun b => b = (b3 || isLetter (hd ((s.b.drop f.toNat).drop (dg (s.b.drop f.toNat)))))) (fun J h => T.br (fun h3 => h _ (by rw [h3]; rfl)) fun h3 => T.eq hat (T.eq (letter_eq _) (h _ (by rw [h3]; rfl)))) fun b4 hb4 => ?_
  have hv : b4 = false → v = uval ((s.b.drop f.toNat).take (dg (s.b.drop f.toNat))) := fun h => by
    have e3 := (Bool.or_eq_false_iff.1 (hb4.symm.trans h)).1
    have e2 := (Bool.or_eq_false_iff.1 (hb3.symm.trans e3)).1
    have e1 := (Bool.or_eq_false_iff.1 (hb2.symm.trans e2)).1
    have := of_decide_eq_false (Bool.or_eq_false_iff.1 (hb1.symm.trans e1)).2
    rw [hdn]; exact hq4 (by omega)
  refine T.jp (fun b => b = (b4 || decide (9223372036854775808 < uval ((s.b.drop f.toNat).take (dg (s.b.drop f.toNat)))))) (fun J h => T.br (fun h3 => h _ (by rw [h3]; rfl)) fun h3 => h _ (by rw [h3, hv h3]; rfl)) fun b5 hb5 => ?_
  refine T.jp (fun b => b = (b5 || (!decide (y1 = 45) && decide (uval ((s.b.drop f.toNat).take (dg (s.b.drop f.toNat))) = 9223372036854775808)))) (fun J h => T.br (fun h3 => h _ (by rw [h3]; rfl)) fun h3 => ?_) fun b6 hb6 => ?_
  · have e4 := (Bool.or_eq_false_iff.1 (hb5.symm.trans h3)).1
    refine T.jp (fun b => b = (!decide (y1 = 45) && decide (uval ((s.b.drop f.toNat).take (dg (s.b.drop f.toNat))) = 9223372036854775808))) (fun J3 h4 => T.br (fun h5 => h4 _ (by rw [h5, hv e4]; rfl)) fun h5 => h4 _ (by rw [h5]; rfl)) fun b hb => h _ (by rw [h3, hb]; rfl)
  have hall : b6 = numBad (decide (y1 = 45)) (s.b.drop f.toNat) := by
    rw [hb6, hb5, hb4, hb3, hb2, hb1]; rfl
  rw [← hall]
  exact T.br (fun h3 => T.some (by rw [h3]; rfl)) fun h3 => T.some (by rw [h3]; rfl)

/-! ### Hexes -/
def isHex (c : UInt8) : Bool := isDigit c || (decide (65 ≤ c) && decide (c ≤ 70))
def hx : List UInt8 → Nat
  | [] => 0
  | c :: r => bif isHex c then hx r + 1 else 0
theorem hx_cons (c : UInt8) (r : List UInt8) : hx (c :: r) = bif isHex c then hx r + 1 else 0 := rfl
def hexBad (r : List UInt8) : Bool := !decide (hx r % 2 = 0) || !decide (hd (r.drop (hx r)) = 39) || !decide (hd (r.drop (hx r + 1)) = 72)
theorem hd_lt {b : List UInt8} {n : Nat} (h : hd (b.drop n) ≠ 0) : n < b.length := by
  rcases Nat.lt_or_ge n b.length with h2 | h2
  · exact h2
  · rw [List.drop_eq_nil_of_le h2] at h; exact absurd rfl h
theorem hex_eq (s : Str) (i : Int) (h0 : 0 ≤ i) (h1 : i < s.b.length) (hl : s.b.length ≤ 1000000) :
    r04_hex s i = some (bif hexBad (s.b.drop (i.toNat + 1)) then (-1, ⟨[]⟩) else (i + 1 + (hx (s.b.drop (i.toNat + 1)) : Int) + 2, ⟨(s.b.drop (i.toNat + 1)).take (hx (s.b.drop (i.toNat + 1)))⟩)) := by
  refine tx ?_
  unfold r04_hex
  have e0 : (i + 1).toNat = i.toNat + 1 := by omega
  refine T.ck (by omega) (T.lp (fun (k : Int) => i + 1 ≤ k ∧ k ≤ (s.b.length : Int) ∧ (hx (s.b.drop (i.toNat + 1)) : Int) = k - (i + 1) + hx (s.b.drop k.toNat)) (fun (k : Int) => ((s.b.length : Int) - k).toNat) ⟨Int.le_refl _, by omega, by rw [e0]; omega⟩ (by omega) fun L k ⟨k1, k2, k3⟩ hL => ?_)
  refine T.jp (fun b => (b = true → k < s.b.length ∧ (hx (s.b.drop (i.toNat + 1)) : Int) = k + 1 - (i + 1) + hx (s.b.drop (k + 1).toNat)) ∧ (b = false → (hx (s.b.drop (i.toNat + 1)) : Int) = k - (i + 1))) (fun J h => T.br (fun h2 => ?_) fun h2 => h _ ⟨(fun h => by cases h), fun _ => ?_⟩) fun b hb => ?_
  · have h2 := of_decide_eq_true h2
    refine T.get (by omega) h2 fun y hy => T.eq (digit_eq y) ?_
    have ek : (k + 1).toNat = k.toNat + 1 := by omega
    refine T.jp (fun q => q = isHex y) (fun J2 h3 => T.br (fun h4 => h3 _ (by unfold isHex; rw [h4]; rfl)) fun h4 => T.get (by omega) h2 fun y' hy' => ?_) fun q hq => h _ ?_
    · rw [hy] at hy'; cases hy'
      refine T.jp (fun q => q = (decide (65 ≤ y) && decide (y ≤ 70))) (fun J4 h5 => T.br (fun h6 => T.get (by omega) h2 fun y' hy' => h5 _ (by rw [hy] at hy'; cases hy'; rw [h6]; rfl)) fun h6 => h5 _ (by rw [h6]; rfl)) fun q hq => h3 _ (by unfold isHex; rw [h4, hq]; rfl)
    · subst hq
      rw [dropc hy, hx_cons] at k3
      rw [ek]
      refine ⟨fun hd => ⟨h2, ?_⟩, fun hd => ?_⟩
      · rw [hd, cond_true] at k3; omega
      · rw [hd, cond_false] at k3; omega
  · have h2 := of_decide_eq_false h2
    rw [List.drop_eq_nil_of_le (as := s.b) (i := k.toNat) (by omega)] at k3
    simpa [hx] using k3
  refine T.br (fun h2 => T.ck (by have := hb.1 h2; omega) (hL _ ⟨by have := hb.1 h2; omega, by have := hb.1 h2; omega, (hb.1 h2).2⟩ (by have := hb.1 h2; omega))) fun h2 => ?_
  have hn := hb.2 h2
  have hdk : (s.b.drop (i.toNat + 1)).drop (hx (s.b.drop (i.toNat + 1))) = s.b.drop k.toNat := by rw [List.drop_drop]; congr 1; omega
  have hdk1 : (s.b.drop (i.toNat + 1)).drop (hx (s.b.drop (i.toNat + 1)) + 1) = s.b.drop (k + 1).toNat := by rw [List.drop_drop]; congr 1; omega
  refine T.ck (by omega) (T.asr rfl ?_)
  have hmod : decide ((k - (i + 1)).tmod 2 = 0) = decide (hx (s.b.drop (i.toNat + 1)) % 2 = 0) := by
    rw [decide_eq_decide, Int.tmod_eq_emod_of_nonneg (by omega)]
    omega
  refine T.jp (fun b => b = (!decide (hx (s.b.drop (i.toNat + 1)) % 2 = 0) || !decide (hd (s.b.drop k.toNat) = 39))) (fun J h => T.br (fun h3 => h _ (by rw [← hmod, h3]; rfl)) fun h3 => T.eq (at_eq s k (by omega)) (h _ (by rw [← hmod, h3]; rfl))) fun b1 hb1 => ?_
  refine T.jp (fun b => b = hexBad (s.b.drop (i.toNat + 1))) (fun J h => T.br (fun h3 => h _ ?_) fun h3 => T.ck (by omega) (T.eq (at_eq s (k + 1) (by omega)) (h _ ?_))) fun b2 hb2 => ?_
  · unfold hexBad; rw [hdk, ← hb1, h3]; rfl
  · unfold hexBad; rw [hdk, hdk1, ← hb1, h3]; rfl
  rw [← hb2]
  refine T.br (fun h3 => T.some (by rw [h3]; rfl)) fun h3 => ?_
  have hlt : k + 1 < s.b.length := by
    rw [h3] at hb2
    unfold hexBad at hb2
    have := (Bool.or_eq_false_iff.1 hb2.symm).2
    have h72 : hd (s.b.drop (k + 1).toNat) = 72 := by rw [hdk1] at this; simpa using this
    have := hd_lt (b := s.b) (n := (k + 1).toNat) (by rw [h72]; decide)
    omega
  refine T.ck (by omega) (T.asd (by omega) (T.some ?_))
  rw [h3, cond_false, seg, e0]
  have e5 : k.toNat - (i.toNat + 1) = hx (s.b.drop (i.toNat + 1)) := by omega
  rw [e5, hn]
  have e6 : i + 1 + (k - (i + 1)) + 2 = k + 2 := by omega
  rw [e6]

/-! ### Strings -/
def qd : Bool → List UInt8 → List UInt8 → Option (List UInt8 × List UInt8)
  | _, [], _ => none
  | true, _ :: r, acc => qd false r (acc ++ [34])
  | false, c :: r, acc => bif decide (c = 34) then bif decide (hd r = 34) then qd true r acc else bif Lib.validD acc then some (acc, r) else none else qd false r (acc ++ [c])
theorem quoted_eq (s : Str) (i : Int) (h0 : 0 ≤ i) (h1 : i < s.b.length) (hl : s.b.length ≤ 1000000) :
    r04_quoted s i = some (match qd false (s.b.drop (i.toNat + 1)) [] with
      | none => (-1, ⟨[]⟩)
      | some (t, r) => ((s.b.length : Int) - (r.length : Int), ⟨t⟩)) := by
  refine tx ?_
  unfold r04_quoted
  have e0 : (i + 1).toNat = i.toNat + 1 := by omega
  refine T.ck (by omega) (T.lp (ι := Int × Str) (fun q => i + 1 ≤ q.1 ∧ q.1 ≤ s.b.length + 1 ∧ (q.2.b.length : Int) < q.1 ∧ qd false (s.b.drop (i.toNat + 1)) [] = qd false (s.b.drop q.1.toNat) q.2.b) (fun q => (s.b.length + 1 - q.1).toNat) ⟨Int.le_refl _, by dsimp only; omega, by dsimp only; simp only [List.length_nil]; omega, by dsimp only; rw [e0]⟩ (by dsimp only; omega) fun L q hq hL => ?_)
  obtain ⟨k, o⟩ := q
  obtain ⟨hq1, hq2, hq3, hq4⟩ := hq
  simp only at hq1 hq2 hq3 hq4 ⊢
  rw [hq4] at hL ⊢
  refine T.br (fun h2 => ?_) fun h2 => T.some ?_
  rotate_left
  · have h2 := of_decide_eq_false h2
    rw [List.drop_eq_nil_of_le (by omega)]; simp only [qd]
  have h2 := of_decide_eq_true h2
  have ek : (k + 1).toNat = k.toNat + 1 := by omega
  refine T.jp (fun (q : Int × Str) => k ≤ q.1 ∧ q.1 < (s.b.length : Int) ∧ (q.2.b.length : Int) < q.1 + 1 ∧ qd false (s.b.drop k.toNat) o.b = qd false (s.b.drop (q.1 + 1).toNat) q.2.b) (fun J h => ?_) fun q hq => ?_
  · refine T.get (by omega) h2 fun y hy => T.br (fun h3 => ?_) fun h3 => ?_
    · have h34 : decide (y = 34) = false := by simpa using h3
      have ey : (s.b.take (k + 1).toNat).drop k.toNat = [y] := by
        rw [seg, ek, dropc hy, show k.toNat + 1 - k.toNat = 1 by omega]; rfl
      refine T.ck (by omega) (T.asd (by omega) (T.abl ?_ (h _ ⟨Int.le_refl _, h2, ?_, ?_⟩)))
      · simp only [List.length_drop, List.length_take]; omega
      · simp only [List.length_append, List.length_drop, List.length_take]; omega
      · dsimp only
        rw [ey, ek]
        conv => lhs; rw [dropc hy]
        simp only [qd, h34, cond_false]
    · have h34 : decide (y = 34) = true := by simpa using h3
      refine T.ck (by omega) (T.eq (at_eq s (k + 1) (by omega)) (T.br (fun h4 => ?_) fun h4 => ?_))
      · have hn : decide (hd (s.b.drop (k.toNat + 1)) = 34) = false := by rw [ek] at h4; simpa using h4
        refine T.eq rfl (T.br (fun h5 => T.some ?_) fun h5 => T.ck (by omega) (T.some ?_))
        · have h5 : Lib.validD o.b = false := by simpa using h5
          conv => rhs; rw [dropc hy]
          simp only [qd, h34, cond_true, hn, cond_false, h5]
        · have h5 : Lib.validD o.b = true := by simpa using h5
          conv => rhs; rw [dropc hy]
          simp only [qd, h34, cond_true, hn, cond_false, h5, List.length_drop]
          congr 1; omega
      · have hn : hd (s.b.drop (k.toNat + 1)) = 34 := by rw [ek] at h4; simpa using h4
        have hlt := hd_lt (b := s.b) (n := k.toNat + 1) (by rw [hn]; decide)
        obtain ⟨c, ec⟩ := skip1 hlt
        refine T.abl ?_ (T.ck (by omega) (h _ ⟨by dsimp only; omega, by dsimp only; omega, ?_, ?_⟩))
        · simp only [List.length_cons, List.length_nil]; omega
        · simp only [List.length_append, List.length_cons, List.length_nil]; omega
        · dsimp only
          rw [show (k + 1 + 1).toNat = k.toNat + 1 + 1 by omega]
          conv => lhs; rw [dropc hy]
          simp only [qd, h34, cond_true, decide_eq_true hn]
          rw [ec]; simp only [qd]
  · exact T.ck (by omega) (hL _ ⟨by dsimp only; omega, by dsimp only; omega, hq.2.2.1, hq.2.2.2⟩ (by dsimp only; omega))
end Go.Proofs.YtiibmpdjkdjbiaaGreatDoor


namespace Go.Proofs.YtiibmpdjkdjbiaaGreatDoor
open Go.Sy
set_option linter.unusedVariables false

/-! ### Signs -/
def isPre : List UInt8 → List UInt8 → Bool
  | [], _ => true
  | _ :: _, [] => false
  | p :: ps, c :: r => bif decide (p = c) then isPre ps r else false
def sgF : List (List UInt8) → List UInt8 → Nat
  | [], _ => 0
  | p :: ps, b => bif isPre p b then p.length else sgF ps b
def sgs : List (List UInt8) := [[58, 58, 61], [46, 46, 46], [46, 46], [91, 91], [93, 93], [123], [125], [91], [93], [40], [41], [44], [58]]
def sg (b : List UInt8) : Nat := sgF sgs b
theorem isPre_iff : ∀ (p b : List UInt8), isPre p b = true ↔ p.length ≤ b.length ∧ b.take p.length = p
  | [], b => by simp [isPre]
  | _ :: _, [] => by simp [isPre]
  | p :: ps, c :: r => by
    have ih := isPre_iff ps r
    unfold isPre
    by_cases h : p = c
    · subst h; simp [ih]
    · simp only [decide_eq_false h, cond_false, List.length_cons, List.take_succ_cons, List.cons.injEq]
      exact ⟨(fun h => by cases h), fun h2 => absurd h2.2.1.symm h⟩
theorem sgs_get {k : Nat} {y : Str} (h : ([(Str.mk [58, 58, 61]), (Str.mk [46, 46, 46]), (Str.mk [46, 46]), (Str.mk [91, 91]), (Str.mk [93, 93]), (Str.mk [123]), (Str.mk [125]), (Str.mk [91]), (Str.mk [93]), (Str.mk [40]), (Str.mk [41]), (Str.mk [44]), (Str.mk [58])] : List Str)[k]? = some y) : sgs.drop k = y.b :: sgs.drop (k + 1) := by
  have e : ([(Str.mk [58, 58, 61]), (Str.mk [46, 46, 46]), (Str.mk [46, 46]), (Str.mk [91, 91]), (Str.mk [93, 93]), (Str.mk [123]), (Str.mk [125]), (Str.mk [91]), (Str.mk [93]), (Str.mk [40]), (Str.mk [41]), (Str.mk [44]), (Str.mk [58])] : List Str) = sgs.map Str.mk := rfl
  rw [e, List.getElem?_map] at h
  obtain ⟨z, h1, h2⟩ := Option.map_eq_some_iff.1 h
  subst h2
  obtain ⟨h3, h4⟩ := List.getElem?_eq_some_iff.1 h1
  rw [List.drop_eq_getElem_cons h3, h4]
theorem sign_eq (s : Str) (i : Int) (h0 : 0 ≤ i) (h1 : i < s.b.length) (hl : s.b.length ≤ 1000000) : r04_sign s i = some ((sg (s.b.drop i.toNat) : Nat) : Int) := by
  refine tx ?_
  unfold r04_sign
  refine T.asd (by omega) (T.lp (fun (k : Int) => 0 ≤ k ∧ k ≤ 13 ∧ sgF (sgs.drop k.toNat) (s.b.drop i.toNat) = sg (s.b.drop i.toNat)) (fun (k : Int) => (13 - k).toNat) ⟨Int.le_refl _, by omega, rfl⟩ (by omega) fun L k ⟨k1, k2, k3⟩ hL => ?_)
  have er : (s.b.take ((s.b.length : Int)).toNat).drop i.toNat = s.b.drop i.toNat := by rw [List.take_of_length_le (by omega)]
  refine T.br (fun h2 => ?_) fun h2 => T.some ?_
  rotate_left
  · have h2 : ¬ k < 13 := of_decide_eq_false h2
    have : k = 13 := by omega
    subst this
    rw [← k3]; rfl
  have h2 := of_decide_eq_true h2
  refine T.get k1 h2 fun y hy => ?_
  have hs := sgs_get hy
  rw [hs] at k3
  unfold sgF at k3
  rw [er]
  refine T.jp (fun b => b = isPre y.b (s.b.drop i.toNat)) (fun J h => T.br (fun h3 => ?_) fun h3 => h _ ?_) fun b hb => ?_
  · have h3 := of_decide_eq_true h3
    refine T.asd ⟨Int.le_refl _, by omega, h3⟩ (T.get k1 h2 fun y2 hy2 => h _ ?_)
    rw [hy] at hy2; cases hy2
    have h4 : y.b.length ≤ (s.b.drop i.toNat).length := by simp only [List.length_drop] at h3 ⊢; omega
    rw [Bool.eq_iff_iff, decide_eq_true_eq, isPre_iff]
    constructor
    · intro h5
      refine ⟨h4, ?_⟩
      have := congrArg Str.b h5
      simpa using this
    · intro h5
      obtain ⟨yb⟩ := y
      simp only [Str.mk.injEq]
      simpa using h5.2
  · have h3 := of_decide_eq_false h3
    symm
    rw [Bool.eq_false_iff]
    intro h5
    have := (isPre_iff _ _).1 h5
    simp only [List.length_drop] at h3 this
    omega
  · rw [hb]
    refine T.br (fun h3 => T.some ?_) fun h3 => T.ck (by have h2 : k < 13 := h2; omega) (hL _ ⟨by omega, by have h2 : k < 13 := h2; omega, ?_⟩ (by have h2 : k < 13 := h2; omega))
    · rw [h3, cond_true] at k3; rw [← k3]
    · rw [h3, cond_false] at k3
      have e : (k + 1).toNat = k.toNat + 1 := by omega
      rw [e, k3]

/-! ### Words -/
def wordsL : List Str := [(Str.mk [68, 69, 70, 73, 78, 73, 84, 73, 79, 78, 83]), (Str.mk [69, 88, 80, 76, 73, 67, 73, 84]), (Str.mk [73, 77, 80, 76, 73, 67, 73, 84]), (Str.mk [65, 85, 84, 79, 77, 65, 84, 73, 67]), (Str.mk [84, 65, 71, 83]), (Str.mk [66, 69, 71, 73, 78]), (Str.mk [69, 78, 68]), (Str.mk [66, 79, 79, 76, 69, 65, 78]), (Str.mk [73, 78, 84, 69, 71, 69, 82]), (Str.mk [69, 78, 85, 77, 69, 82, 65, 84, 69, 68]), (Str.mk [78, 85, 76, 76]), (Str.mk [79, 67, 84, 69, 84]), (Str.mk [83, 84, 82, 73, 78, 71]), (Str.mk [85, 84, 70, 56, 83, 116, 114, 105, 110, 103]), (Str.mk [83, 69, 81, 85, 69, 78, 67, 69]), (Str.mk [83, 69, 84]), (Str.mk [67, 72, 79, 73, 67, 69]), (Str.mk [79, 70]), (Str.mk [79, 80, 84, 73, 79, 78, 65, 76]), (Str.mk [68, 69, 70, 65, 85, 76, 84]), (Str.mk [83, 73, 90, 69]), (Str.mk [77, 73, 78]), (Str.mk [77, 65, 88]), (Str.mk [84, 82, 85, 69]), (Str.mk [70, 65, 76, 83, 69])]
def sameB : List UInt8 → List UInt8 → Bool
  | [], [] => true
  | a :: r, b :: t => bif decide (a = b) then sameB r t else false
  | _, _ => false
theorem sameB_iff : ∀ a b : List UInt8, sameB a b = true ↔ a = b
  | [], [] => by simp [sameB]
  | [], _ :: _ => by simp [sameB]
  | _ :: _, [] => by simp [sameB]
  | a :: r, b :: t => by
    have ih := sameB_iff r t
    unfold sameB
    by_cases h : a = b
    · subst h; simp [ih]
    · simp [h]
def isWord (t : List UInt8) : Bool := wordsL.any fun w => sameB w.b t
theorem word_eq (s : Str) : r04_Word s = some (isWord s.b) := by
  refine tx ?_
  unfold r04_Word
  refine T.eq (y := wordsL) rfl (T.cal (in_string_tot wordsL s (by decide)) fun y _ hy => T.some ?_)
  rw [hy, Bool.eq_iff_iff, decide_eq_true_eq]
  unfold isWord
  rw [List.any_eq_true]
  constructor
  · intro h; exact ⟨s, h, (sameB_iff _ _).2 rfl⟩
  · rintro ⟨w, h1, h2⟩
    have := (sameB_iff _ _).1 h2
    obtain ⟨wb⟩ := w; obtain ⟨sb⟩ := s
    simp only at this; subst this; exact h1

/-! ### One sign, all signs -/
/-- The kind and the text of what comes first, and what is left behind it. -/
def oneS (b : List UInt8) : Option (Int × List UInt8 × List UInt8) :=
  let c := hd b
  bif isLetter c then bif nmBad b then none else some (bif isWord (b.take (nm b)) then 5 else bif decide (c ≤ 90) then 1 else 2, b.take (nm b), b.drop (nm b))
  else bif isDigit c || (decide (c = 45) && isDigit (hd (b.drop 1))) then match numLen b with
    | none => none
    | some n => some (3, b.take n, b.drop n)
  else bif decide (c = 39) then bif hexBad (b.drop 1) then none else some (4, (b.drop 1).take (hx (b.drop 1)), (b.drop 1).drop (hx (b.drop 1) + 2))
  else bif decide (c = 34) then match qd false (b.drop 1) [] with
    | none => none
    | some (t, r) => some (7, t, r)
  else bif decide (0 < sg b) then some (6, b.take (sg b), b.drop (sg b)) else none
theorem qd_len : ∀ (b : List UInt8) (f : Bool) (acc t r : List UInt8), qd f b acc = some (t, r) → r.length < b.length
  | [], f, acc, t, r, h => by cases f <;> simp [qd] at h
  | c :: b, true, acc, t, r, h => by
    simp only [qd] at h
    have := qd_len b _ _ _ _ h
    simp; omega
  | c :: b, false, acc, t, r, h => by
    simp only [qd] at h
    by_cases h1 : c = 34
    · simp only [decide_eq_true h1, cond_true] at h
      by_cases h2 : hd b = 34
      · simp only [decide_eq_true h2, cond_true] at h
        have := qd_len b _ _ _ _ h
        simp; omega
      · simp only [decide_eq_false h2, cond_false] at h
        cases hv : Lib.validD acc with
        | true => rw [hv] at h; simp at h; rw [← h.2]; simp
        | false => rw [hv] at h; cases h
    · simp only [decide_eq_false h1, cond_false] at h
      have := qd_len b _ _ _ _ h
      simp; omega
theorem numLen_bd {b : List UInt8} {n : Nat} (h : numLen b = some n) : 0 < n ∧ n ≤ b.length := by
  unfold numLen at h
  by_cases h1 : hd b = 45
  · simp only [decide_eq_true h1, cond_true] at h
    cases hb : numBad true (b.drop 1) with
    | true => rw [hb] at h; cases h
    | false =>
      rw [hb] at h; simp only [cond_false, Option.some.injEq] at h
      have := dg_le (b.drop 1)
      rw [List.length_drop] at this
      have : b ≠ [] := fun e => by rw [e] at h1; cases h1
      have := List.length_pos_iff.2 this
      omega
  · simp only [decide_eq_false h1, cond_false] at h
    cases hb : numBad false b with
    | true => rw [hb] at h; cases h
    | false =>
      rw [hb] at h; simp at h
      have := dg_le b
      have : decide (dg b < 1) = false := by
        unfold numBad at hb
        simp only [Bool.or_eq_false_iff] at hb
        exact hb.1.1.1.1.1.1
      have := of_decide_eq_false this
      omega
theorem nm_pos {b : List UInt8} (h : isLetter (hd b) = true) : 0 < nm b := by
  cases b with
  | nil => simp [hd, isLetter] at h
  | cons c r =>
    rw [nm_cons]
    simp only [hd] at h
    unfold inName
    rw [h]; simp
theorem sg_le : ∀ (l : List (List UInt8)) (b : List UInt8), sgF l b ≤ b.length
  | [], b => Nat.zero_le _
  | p :: ps, b => by
    unfold sgF
    cases h : isPre p b with
    | true => exact ((isPre_iff _ _).1 h).1
    | false => exact sg_le ps b
theorem oneS_len {b t r : List UInt8} {k : Int} (h : oneS b = some (k, t, r)) : r.length < b.length := by
  unfold oneS at h
  simp only at h
  cases h1 : isLetter (hd b) with
  | true =>
    rw [h1, cond_true] at h
    cases h2 : nmBad b with
    | true => rw [h2] at h; cases h
    | false =>
      rw [h2] at h
      simp only [cond_false, Option.some.injEq, Prod.mk.injEq] at h
      rw [← h.2.2, List.length_drop]
      have := nm_pos h1
      have := nm_le b
      omega
  | false =>
    rw [h1, cond_false] at h
    cases h2 : isDigit (hd b) || (decide (hd b = 45) && isDigit (hd (b.drop 1))) with
    | true =>
      rw [h2, cond_true] at h
      cases h3 : numLen b with
      | none => rw [h3] at h; cases h
      | some n =>
        rw [h3] at h
        simp only [Option.some.injEq, Prod.mk.injEq] at h
        have := numLen_bd h3
        rw [← h.2.2, List.length_drop]; omega
    | false =>
      rw [h2, cond_false] at h
      by_cases h3 : hd b = 39
      · rw [decide_eq_true h3, cond_true] at h
        cases h4 : hexBad (b.drop 1) with
        | true => rw [h4] at h; cases h
        | false =>
          rw [h4] at h
          simp only [cond_false, Option.some.injEq, Prod.mk.injEq] at h
          have : b ≠ [] := fun e => by rw [e] at h3; cases h3
          have := List.length_pos_iff.2 this
          rw [← h.2.2, List.length_drop, List.length_drop]; omega
      · rw [decide_eq_false h3, cond_false] at h
        by_cases h4 : hd b = 34
        · rw [decide_eq_true h4, cond_true] at h
          cases h5 : qd false (b.drop 1) [] with
          | none => rw [h5] at h; cases h
          | some q =>
            rw [h5] at h
            obtain ⟨t', r'⟩ := q
            simp only [Option.some.injEq, Prod.mk.injEq] at h
            have := qd_len _ _ _ _ _ h5
            rw [List.length_drop] at this
            rw [← h.2.2]; omega
        · rw [decide_eq_false h4, cond_false] at h
          by_cases h5 : 0 < sg b
          · rw [decide_eq_true h5, cond_true] at h
            simp only [Option.some.injEq, Prod.mk.injEq] at h
            have := sg_le sgs b
            have e : sgF sgs b = sg b := rfl
            rw [← h.2.2, List.length_drop]; omega
          · rw [decide_eq_false h5] at h; cases h
theorem one_eq (s : Str) (i : Int) (h0 : 0 ≤ i) (h1 : i < s.b.length) (hl : s.b.length ≤ 1000000) :
    T (fun (q : GTok × Int) => match oneS (s.b.drop i.toNat) with
      | none => q.2 < 0
      | some (k, t, r) => q = (⟨k, ⟨t⟩, i⟩, (s.b.length : Int) - (r.length : Int))) (r04_one s i) := by
  unfold r04_one
  refine T.get h0 h1 fun y hy => ?_
  have ed := dropc hy
  have hy0 : hd (s.b.drop i.toNat) = y := by rw [ed]; rfl
  have ed1 : (s.b.drop i.toNat).drop 1 = s.b.drop (i.toNat + 1) := by rw [List.drop_drop]
  have elen : (s.b.drop i.toNat).length = s.b.length - i.toNat := List.length_drop
  have etake : ∀ (n : Nat), (s.b.take (i + (n : Int)).toNat).drop i.toNat = (s.b.drop i.toNat).take n := fun n => by
    rw [seg]; congr 1; omega
  have erest : ∀ (n : Nat), n ≤ (s.b.drop i.toNat).length → i + (n : Int) = (s.b.length : Int) - (((s.b.drop i.toNat).drop n).length : Int) := fun n hn => by
    rw [List.length_drop, elen]; rw [elen] at hn; omega
  refine T.jp (ι := Int × GTok) (fun (q : Int × GTok) => match oneS (s.b.drop i.toNat) with
      | none => q.1 < 0
      | some (k, t, r) => (q.2, q.1) = (⟨k, ⟨t⟩, i⟩, (s.b.length : Int) - (r.length : Int))) (fun J h => ?_) fun q hq => T.some hq
  unfold oneS at h ⊢
  simp only [hy0] at h ⊢
  refine T.eq (letter_eq y) (T.br (fun hle => ?_) fun hle => T.eq (digit_eq y) ?_)
  · rw [hle, cond_true] at h ⊢
    have hcl : isLetter (hd (s.b.drop i.toNat)) = true := by rw [hy0]; exact hle
    refine T.eq (name_eq s i h0 h1 hl hcl) ?_
    cases hb : nmBad (s.b.drop i.toNat) with
    | true =>
      rw [hb, cond_true] at h
      simp only [cond_true] at h ⊢
      exact T.br (fun _ => T.some (by dsimp only; omega)) fun hn => by have := of_decide_eq_false hn; omega
    | false =>
      rw [hb, cond_false] at h
      simp only [cond_false] at h ⊢
      have hnl := nm_le (s.b.drop i.toNat)
      rw [elen] at hnl
      refine T.br (fun hn => by have := of_decide_eq_true hn; omega) fun _ => T.asd (by omega) ?_
      rw [etake]
      refine T.jp (ι := GTok) (fun t => t = ⟨bif decide (y ≤ 90) then 1 else 2, ⟨(s.b.drop i.toNat).take (nm (s.b.drop i.toNat))⟩, i⟩) (fun J2 h2 => T.br (fun h3 => h2 _ (by rw [h3]; rfl)) fun h3 => h2 _ (by rw [h3]; rfl)) fun t ht => ?_
      subst ht
      refine T.eq (word_eq _) (T.br (fun h3 => h _ ?_) fun h3 => h _ ?_)
      · dsimp only at h3 ⊢; rw [h3, ← erest _ (nm_le _)]; rfl
      · dsimp only at h3 ⊢; rw [h3, ← erest _ (nm_le _)]; rfl
  · rw [hle, cond_false] at h ⊢
    refine T.jp (fun b => b = (isDigit y || (decide (y = 45) && isDigit (hd ((s.b.drop i.toNat).drop 1))))) (fun J2 h2 => T.br (fun h3 => h2 _ (by rw [h3]; rfl)) fun h3 => ?_) fun b hb => ?_
    · refine T.jp (fun b => b = (decide (y = 45) && isDigit (hd ((s.b.drop i.toNat).drop 1)))) (fun J3 h4 => T.br (fun h5 => T.ck (by omega) (T.eq (at_eq s (i + 1) (by omega)) (T.eq (digit_eq _) (h4 _ ?_)))) fun h5 => h4 _ (by rw [h5]; rfl)) fun b hb => h2 _ (by rw [h3, hb]; rfl)
      rw [h5, ed1, show (i + 1).toNat = i.toNat + 1 by omega]; rfl
    rw [← hb] at h ⊢
    refine T.br (fun h3 => T.eq (number_eq s i h0 h1 hl) ?_) fun h3 => ?_
    · rw [h3, cond_true] at h ⊢
      cases hn : numLen (s.b.drop i.toNat) with
      | none =>
        simp only [hn] at h ⊢
        exact T.br (fun _ => T.some (by dsimp only; omega)) fun hn => by have := of_decide_eq_false hn; omega
      | some n =>
        simp only [hn] at h ⊢
        have hbd := numLen_bd hn
        have hbd2 := hbd.2
        rw [elen] at hbd2
        refine T.br (fun hn => by have := of_decide_eq_true hn; omega) fun _ => T.asd (by omega) (h _ ?_)
        rw [etake, ← erest n hbd.2]
    · rw [h3, cond_false] at h ⊢
      refine T.br (fun h4 => T.eq (hex_eq s i h0 h1 hl) (h _ ?_)) fun h4 => ?_
      · rw [h4, cond_true, ed1]
        cases hb : hexBad (s.b.drop (i.toNat + 1)) with
        | true => simp only [cond_true]; omega
        | false =>
          simp only [cond_false]
          have h5 : hx (s.b.drop (i.toNat + 1)) + 1 < (s.b.drop (i.toNat + 1)).length := by
            unfold hexBad at hb
            have := (Bool.or_eq_false_iff.1 hb).2
            have h72 : hd ((s.b.drop (i.toNat + 1)).drop (hx (s.b.drop (i.toNat + 1)) + 1)) = 72 := by simpa using this
            exact hd_lt (by rw [h72]; decide)
          rw [List.length_drop] at h5
          rw [List.length_drop, List.length_drop]
          have e : i + 1 + (hx (s.b.drop (i.toNat + 1)) : Int) + 2 = (s.b.length : Int) - ((s.b.length - (i.toNat + 1) - (hx (s.b.drop (i.toNat + 1)) + 2) : Nat) : Int) := by omega
          rw [e]
      · rw [h4, cond_false] at h ⊢
        refine T.br (fun h5 => T.eq (quoted_eq s i h0 h1 hl) (h _ ?_)) fun h5 => ?_
        · rw [h5, cond_true, ed1]
          cases hq : qd false (s.b.drop (i.toNat + 1)) [] with
          | none => simp only; omega
          | some q => rfl
        · rw [h5, cond_false] at h ⊢
          refine T.eq (sign_eq s i h0 h1 hl) (T.br (fun h6 => ?_) fun h6 => h _ ?_)
          · have h6 := of_decide_eq_true h6
            have hsl := sg_le sgs (s.b.drop i.toNat)
            have esg : sgF sgs (s.b.drop i.toNat) = sg (s.b.drop i.toNat) := rfl
            have hpos : 0 < sg (s.b.drop i.toNat) := by omega
            have hsl2 := hsl
            rw [elen] at hsl2
            refine T.ck (by omega) (T.asd (by omega) (T.ck (by omega) (h _ ?_)))
            rw [decide_eq_true hpos, cond_true]
            dsimp only
            rw [etake, ← erest (sg (s.b.drop i.toNat)) hsl]
          · have h6 := of_decide_eq_false h6
            rw [decide_eq_false (show ¬ 0 < sg (s.b.drop i.toNat) by omega)]
            simp only [cond_false]; omega

def toksF (n : Nat) : Nat → List UInt8 → List GTok → List GTok × Int × Int
  | 0, _, _ => ([], 0, 0)
  | f + 1, b, acc => match wh .out b with
    | [] => (acc ++ [⟨0, ⟨[]⟩, (n : Int)⟩], 0, 0)
    | c :: r => match oneS (c :: r) with
      | none => ([], (n : Int) - ((c :: r).length : Int), 6)
      | some (k, t, r') => toksF n f r' (acc ++ [⟨k, ⟨t⟩, (n : Int) - ((c :: r).length : Int)⟩])
theorem toksF_succ (n f : Nat) (b : List UInt8) (acc : List GTok) : toksF n (f + 1) b acc = match wh .out b with
    | [] => (acc ++ [⟨0, ⟨[]⟩, (n : Int)⟩], 0, 0)
    | c :: r => match oneS (c :: r) with
      | none => ([], (n : Int) - ((c :: r).length : Int), 6)
      | some (k, t, r') => toksF n f r' (acc ++ [⟨k, ⟨t⟩, (n : Int) - ((c :: r).length : Int)⟩]) := rfl
def toks (b : List UInt8) : List GTok × Int × Int := bif decide (8000 < b.length) then ([], 0, 5) else toksF b.length (b.length + 1) b []
theorem wh_len : ∀ (b : List UInt8) (st : Wst), (wh st b).length ≤ b.length
  | [], st => by cases st <;> simp [wh]
  | c :: r, .out => by
    have h1 := wh_len r .out
    have h2 := wh_len r .start
    simp only [wh]
    cases isWh c <;> simp only [cond_true, cond_false]
    · cases decide (c = 45) && decide (hd r = 45) <;> simp only [cond_true, cond_false, List.length_cons] <;> omega
    · simp only [List.length_cons]; omega
  | c :: r, .start => by have := wh_len r .ins; simp only [wh, List.length_cons]; omega
  | c :: r, .ins => by
    have h1 := wh_len r .out
    have h2 := wh_len r .fin
    have h3 := wh_len r .ins
    simp only [wh, List.length_cons]
    cases decide (c = 10) <;> simp only [cond_true, cond_false]
    · cases decide (c = 45) && decide (hd r = 45) <;> simp only [cond_true, cond_false] <;> omega
    · omega
  | c :: r, .fin => by have := wh_len r .out; simp only [wh, List.length_cons]; omega
theorem wh_suf : ∀ (b : List UInt8) (st : Wst), ∃ n, wh st b = b.drop n
  | [], st => ⟨0, by cases st <;> simp [wh]⟩
  | c :: r, .out => by
    obtain ⟨n1, h1⟩ := wh_suf r .out
    obtain ⟨n2, h2⟩ := wh_suf r .start
    simp only [wh]
    cases isWh c <;> simp only [cond_true, cond_false]
    · cases decide (c = 45) && decide (hd r = 45) <;> simp only [cond_true, cond_false]
      · exact ⟨0, rfl⟩
      · exact ⟨n2 + 1, h2⟩
    · exact ⟨n1 + 1, h1⟩
  | c :: r, .start => by obtain ⟨n, h⟩ := wh_suf r .ins; exact ⟨n + 1, h⟩
  | c :: r, .ins => by
    obtain ⟨n1, h1⟩ := wh_suf r .out
    obtain ⟨n2, h2⟩ := wh_suf r .fin
    obtain ⟨n3, h3⟩ := wh_suf r .ins
    simp only [wh]
    cases decide (c = 10) <;> simp only [cond_true, cond_false]
    · cases decide (c = 45) && decide (hd r = 45) <;> simp only [cond_true, cond_false]
      · exact ⟨n3 + 1, h3⟩
      · exact ⟨n2 + 1, h2⟩
    · exact ⟨n1 + 1, h1⟩
  | c :: r, .fin => by obtain ⟨n, h⟩ := wh_suf r .out; exact ⟨n + 1, h⟩
theorem qd_suf : ∀ (b : List UInt8) (f : Bool) (acc t r : List UInt8), qd f b acc = some (t, r) → ∃ n, r = b.drop n
  | [], f, acc, t, r, h => by cases f <;> simp [qd] at h
  | c :: b, true, acc, t, r, h => by
    simp only [qd] at h
    obtain ⟨n, e⟩ := qd_suf b _ _ _ _ h
    exact ⟨n + 1, e⟩
  | c :: b, false, acc, t, r, h => by
    simp only [qd] at h
    by_cases h1 : c = 34
    · simp only [decide_eq_true h1, cond_true] at h
      by_cases h2 : hd b = 34
      · simp only [decide_eq_true h2, cond_true] at h
        obtain ⟨n, e⟩ := qd_suf b _ _ _ _ h
        exact ⟨n + 1, e⟩
      · simp only [decide_eq_false h2, cond_false] at h
        cases hv : Lib.validD acc with
        | true => rw [hv] at h; simp at h; exact ⟨1, h.2.symm⟩
        | false => rw [hv] at h; cases h
    · simp only [decide_eq_false h1, cond_false] at h
      obtain ⟨n, e⟩ := qd_suf b _ _ _ _ h
      exact ⟨n + 1, e⟩
theorem oneS_suf {b t r : List UInt8} {k : Int} (h : oneS b = some (k, t, r)) : ∃ n, r = b.drop n := by
  unfold oneS at h
  simp only at h
  cases h1 : isLetter (hd b) with
  | true =>
    rw [h1, cond_true] at h
    cases h2 : nmBad b with
    | true => rw [h2] at h; cases h
    | false =>
      rw [h2] at h
      simp only [cond_false, Option.some.injEq, Prod.mk.injEq] at h
      exact ⟨_, h.2.2.symm⟩
  | false =>
    rw [h1, cond_false] at h
    cases h2 : isDigit (hd b) || (decide (hd b = 45) && isDigit (hd (b.drop 1))) with
    | true =>
      rw [h2, cond_true] at h
      cases h3 : numLen b with
      | none => rw [h3] at h; cases h
      | some n =>
        rw [h3] at h
        simp only [Option.some.injEq, Prod.mk.injEq] at h
        exact ⟨_, h.2.2.symm⟩
    | false =>
      rw [h2, cond_false] at h
      by_cases h3 : hd b = 39
      · rw [decide_eq_true h3, cond_true] at h
        cases h4 : hexBad (b.drop 1) with
        | true => rw [h4] at h; cases h
        | false =>
          rw [h4] at h
          simp only [cond_false, Option.some.injEq, Prod.mk.injEq, List.drop_drop] at h
          exact ⟨_, h.2.2.symm⟩
      · rw [decide_eq_false h3, cond_false] at h
        by_cases h4 : hd b = 34
        · rw [decide_eq_true h4, cond_true] at h
          cases h5 : qd false (b.drop 1) [] with
          | none => rw [h5] at h; cases h
          | some q =>
            rw [h5] at h
            obtain ⟨t', r'⟩ := q
            simp only [Option.some.injEq, Prod.mk.injEq] at h
            obtain ⟨n, e⟩ := qd_suf _ _ _ _ _ h5
            rw [List.drop_drop] at e
            exact ⟨_, h.2.2.symm.trans e⟩
        · rw [decide_eq_false h4, cond_false] at h
          by_cases h5 : 0 < sg b
          · rw [decide_eq_true h5, cond_true] at h
            simp only [Option.some.injEq, Prod.mk.injEq] at h
            exact ⟨_, h.2.2.symm⟩
          · rw [decide_eq_false h5] at h; cases h
theorem suf_drop {b r : List UInt8} {n : Nat} (h : r = b.drop n) : b.drop (b.length - r.length) = r := by
  subst h
  rw [List.length_drop]
  rcases Nat.lt_or_ge b.length n with h2 | h2
  · rw [List.drop_eq_nil_of_le (show b.length ≤ n by omega), List.drop_eq_nil_of_le (by omega)]
  · congr 1; omega

theorem tokens_eq (s : Str) : r04_Tokens s = some (toks s.b) := by
  refine tx ?_
  unfold r04_Tokens toks
  refine T.br (fun h => T.some ?_) fun h => ?_
  · have h := of_decide_eq_true h
    rw [decide_eq_true (show 8000 < s.b.length by omega)]; rfl
  have hl := of_decide_eq_false h
  rw [decide_eq_false (show ¬ 8000 < s.b.length by omega), cond_false]
  refine T.lp (ι := List GTok × Int) (fun (q : List GTok × Int) => 0 ≤ q.2 ∧ q.2 ≤ (s.b.length : Int) ∧ (q.1.length : Int) ≤ q.2 ∧ ∃ f, (s.b.drop q.2.toNat).length < f ∧ toksF s.b.length (s.b.length + 1) s.b [] = toksF s.b.length f (s.b.drop q.2.toNat) q.1) (fun (q : List GTok × Int) => ((s.b.length : Int) - q.2).toNat) ⟨Int.le_refl _, by dsimp only; omega, by simp, s.b.length + 1, by simp, rfl⟩ (by dsimp only; omega) fun L q hq hL => ?_
  obtain ⟨l, k⟩ := q
  obtain ⟨h1, h2, h3, f, h4, h5⟩ := hq
  simp only at h1 h2 h3 h4 h5 ⊢
  rw [h5] at hL ⊢
  cases f with
  | zero => omega
  | succ f =>
    have hwl := wh_len (s.b.drop k.toNat) .out
    rw [List.length_drop] at hwl h4
    obtain ⟨nw, hw⟩ := wh_suf (s.b.drop k.toNat) .out
    rw [List.drop_drop] at hw
    have hsw := suf_drop hw
    refine T.eq (white_eq s k h1 h2 (by omega)) ?_
    rw [toksF_succ] at hL ⊢
    cases hwh : wh .out (s.b.drop k.toNat) with
    | nil =>
      simp only [hwh] at hL ⊢
      refine T.br (fun _ => T.abl (by simp only [List.length_cons, List.length_nil]; omega) (T.some rfl)) fun h6 => ?_
      have := of_decide_eq_false h6
      simp at this
    | cons c r =>
      simp only [hwh] at hL ⊢ 
      rw [hwh] at hwl hsw
      have hcl : 0 < (c :: r).length := by simp
      refine T.br (fun h6 => by have := of_decide_eq_true h6; omega) fun _ => ?_
      have hi : ((s.b.length : Int) - ((c :: r).length : Int)).toNat = s.b.length - (c :: r).length := by omega
      refine T.cal (one_eq s ((s.b.length : Int) - ((c :: r).length : Int)) (by omega) (by omega) (by omega)) fun q _ hq => ?_
      rw [hi, hsw] at hq
      cases ho : oneS (c :: r) with
      | none =>
        rw [ho] at hq
        simp only [ho] at hL ⊢
        simp only at hq
        exact T.br (fun _ => T.some rfl) fun h7 => by have := of_decide_eq_false h7; omega
      | some p =>
        obtain ⟨kd, t, r'⟩ := p
        rw [ho] at hq
        simp only [ho] at hL ⊢
        simp only at hq
        subst hq
        have hol := oneS_len ho
        obtain ⟨no, hso⟩ := oneS_suf ho
        have hso2 : r' = s.b.drop (s.b.length - (c :: r).length + no) := by rw [hso, ← List.drop_drop, hsw]
        have hsd := suf_drop hso2
        refine T.br (fun h7 => by have := of_decide_eq_true h7; dsimp only at this; omega) fun _ => T.abl (by simp only [List.length_cons, List.length_nil]; omega) (hL _ ⟨by dsimp only; omega, by dsimp only; omega, ?_, f, ?_, ?_⟩ (by dsimp only; omega))
        · dsimp only; rw [List.length_append, List.length_singleton]; omega
        · dsimp only
          rw [show ((s.b.length : Int) - (r'.length : Int)).toNat = s.b.length - r'.length by omega, hsd]
          omega
        · dsimp only
          rw [show ((s.b.length : Int) - (r'.length : Int)).toNat = s.b.length - r'.length by omega, hsd]
end Go.Proofs.YtiibmpdjkdjbiaaGreatDoor


namespace Go.Proofs.YtiibmpdjkdjbiaaGreatDoor
open Go.Sy
set_option maxRecDepth 4000
def tokF (s : Str) : Option (List GTok × Int × Int) := some (toks s.b)
theorem tokF_eq : r04_Tokens = tokF := funext tokens_eq
def r05_ParseF (a_text : Str) : Option (GMod × Int × Int) :=
  cal (tokF a_text) fun y2 => br (!decide (y2.2.2 = (0 : Int))) (some ((GMod.mk (Str.mk []) (0 : Int) ([] : (List Str)) ([] : (List Int)) ([] : (List GNode))), y2.2.1, y2.2.2)) (cal (r05_parser_kind (GPar.mk y2.1 (0 : Int) (GMod.mk (Str.mk []) (0 : Int) ([] : (List Str)) ([] : (List Int)) ([] : (List GNode))) (0 : Int) (0 : Int)) (1 : Int)) fun y7 => cal (r05_parser_must (GPar.mk y7.2.l y7.2.at_ (GMod.mk y7.1 y7.2.m.tagging y7.2.m.names y7.2.m.types y7.2.m.nodes) y7.2.e y7.2.p) (Str.mk [68, 69, 70, 73, 78, 73, 84, 73, 79, 78, 83])) fun y10 => jp (ι := GPar) (fun J14 => cal (r05_parser_is y10 (Str.mk [69, 88, 80, 76, 73, 67, 73, 84])) fun y15 => br y15.1 (cal (r05_parser_must y15.2 (Str.mk [84, 65, 71, 83])) fun y18 => J14 (y18)) (cal (r05_parser_is y15.2 (Str.mk [73, 77, 80, 76, 73, 67, 73, 84])) fun y21 => br y21.1 (cal (r05_parser_must (GPar.mk y21.2.l y21.2.at_ (GMod.mk y21.2.m.name (1 : Int) y21.2.m.names y21.2.m.types y21.2.m.nodes) y21.2.e y21.2.p) (Str.mk [84, 65, 71, 83])) fun y24 => J14 (y24)) (cal (r05_parser_is y21.2 (Str.mk [65, 85, 84, 79, 77, 65, 84, 73, 67])) fun y27 => br y27.1 (cal (r05_parser_must (GPar.mk y27.2.l y27.2.at_ (GMod.mk y27.2.m.name (2 : Int) y27.2.m.names y27.2.m.types y27.2.m.nodes) y27.2.e y27.2.p) (Str.mk [84, 65, 71, 83])) fun y30 => J14 (y30)) (J14 (y27.2))))) (fun q13 => cal (r05_parser_must q13 (Str.mk [58, 58, 61])) fun y33 => cal (r05_parser_must y33 (Str.mk [66, 69, 71, 73, 78])) fun y36 => lp (ι := GPar) (fun L40 q39 => jp (ι := Bool × GPar) (fun J92 => br (decide (q39.e = (0 : Int))) (cal (r05_parser_is q39 (Str.mk [69, 78, 68])) fun y94 => J92 ((!y94.1), y94.2)) (J92 (false, q39))) (fun q91 => br q91.1 (cal (r05_parser_now q91.2) fun y97 => cal (r05_parser_kind y97.2 (1 : Int)) fun y101 => jp (ι := Bool) (fun J105 => br (decide (y101.2.e = (0 : Int))) (J105 ((decide ((40 : Int) ≤ (y101.2.m.names.length : Int))))) (J105 (false))) (fun q104 => jp (ι := GPar) (fun J108 => br q104 (cal (r05_parser_fail y101.2 (5 : Int) y97.1) fun y109 => J108 (y109)) (J108 (y101.2))) (fun q107 => cal (r05_parser_must q107 (Str.mk [58, 58, 61])) fun y112 => cal (r05_parser_typ fuel y112 (0 : Int)) fun y115 => asr (Nat.ble (y115.2.m.names.length + ([y101.1] : (List Str)).length) 68719476736) <| asr (Nat.ble (y115.2.m.types.length + ([y115.1] : (List Int)).length) 68719476736) <| L40 ((GPar.mk y115.2.l y115.2.at_ (GMod.mk y115.2.m.name y115.2.m.tagging (y115.2.m.names ++ ([y101.1] : (List Str))) (y115.2.m.types ++ ([y115.1] : (List Int))) y115.2.m.nodes) y115.2.e y115.2.p))))) (jp (ι := Bool × GPar) (fun J126 => br (decide (q91.2.e = (0 : Int))) (cal (r05_parser_now q91.2) fun y128 => J126 ((!decide (y128.1.kind = (0 : Int))), y128.2)) (J126 (false, q91.2))) (fun q125 => jp (ι := GPar) (fun J132 => br q125.1 (cal (r05_parser_now q125.2) fun y133 => cal (r05_parser_fail y133.2 (7 : Int) y133.1) fun y136 => J132 (y136)) (J132 (q125.2))) (fun q131 => br (!decide (q131.e = (0 : Int))) (some ((GMod.mk (Str.mk []) (0 : Int) ([] : (List Str)) ([] : (List Int)) ([] : (List GNode))), q131.p, q131.e)) (some (q131.m, (0 : Int), (0 : Int)))))))) ((y36))))
theorem r05_ParseF_eq : r05_Parse = r05_ParseF := by
  funext a_text
  unfold r05_Parse r05_ParseF
  rw [tokF_eq]
def law10_awakeF : Option (Bool) :=
  cal (r05_ParseF (Str.mk [77, 32, 68, 69, 70, 73, 78, 73, 84, 73, 79, 78, 83, 32, 58, 58, 61, 32, 66, 69, 71, 73, 78, 32, 65, 32, 58, 58, 61, 32, 83, 69, 81, 85, 69, 78, 67, 69, 32, 123, 32, 120, 32, 73, 78, 84, 69, 71, 69, 82, 32, 40, 48, 46, 46, 55, 41, 44, 32, 46, 46, 46, 32, 125, 32, 69, 78, 68])) fun y1 => cal (table_Make y1.1) fun y3 => jp (ι := Bool) (fun J6 => br (decide (y3.2.2 = (0 : Int))) (J6 ((decide ((y3.1.types.length : Int) = (2 : Int))))) (J6 (false))) (fun q5 => jp (ι := Bool) (fun J9 => br q5 (cal (table_Find y3.1 (Str.mk [65])) fun y11 => J9 ((decide (y11 = (0 : Int))))) (J9 (false))) (fun q8 => jp (ι := Bool) (fun J13 => br q8 (cal (getI y3.1.types (1 : Int)) fun y15 => J13 ((decide ((y15.tags.length : Int) = (1 : Int))))) (J13 (false))) (fun q12 => some (q12))))
theorem law10_awakeF_eq : law10_awake = law10_awakeF := by
  unfold law10_awake law10_awakeF
  rw [r05_ParseF_eq]
end Go.Proofs.YtiibmpdjkdjbiaaGreatDoor


namespace Go.Proofs.YtiibmpdjkdjbiaaGreatDoor
open Go.Sy
set_option linter.unusedVariables false

theorem awake10 : law10_awake = some true := by rw [law10_awakeF_eq]; kernel_rfl
theorem cloneNames (l : List Str) (hl : l.length ≤ 1000000) : slices_Clone_Lstring_string l = some l := by
  refine T.eqs ?_
  unfold slices_Clone_Lstring_string
  cases l with
  | nil => exact T.brT rfl (T.some rfl)
  | cons a r => exact T.brF rfl (T.abl (by simp only [List.length_nil, Nat.zero_add]; omega) (T.some rfl))
def emptyTab : GTab := ⟨⟨[]⟩, [], [], []⟩
theorem makeS_tot {m : GMod} (w : WF m) : T (fun r => (r.2.2 ≠ 0 → r.1 = emptyTab) ∧ (r.2.2 = 0 → r.1.types.length ≤ 300 ∧ r.1.roots.length = r.1.names.length ∧ SpR r.1.types 0 r.1.types.length)) (table_Make m) := by
  unfold table_Make
  have hn40 := w.names
  have htl := w.types
  refine T.eq (order_eq w) (T.br (fun he => T.some ⟨fun _ => rfl, fun e => absurd e (by simpa using he)⟩) fun he => T.brF (decide_eq_false (by omega)) ?_)
  have he : (ordr m).2.2 = 0 := by simpa using he
  have hwr : (wr m).2 = 0 := by
    unfold ordr at he
    by_cases h : (wr m).2 = 0
    · exact h
    · rw [if_neg h] at he; exact he
  obtain ⟨rk, E⟩ := env_of w hwr
  refine T.jp (ι := GTab) (fun t => t = ⟨m.name, m.names, [], []⟩) (fun J hJ => T.eq (cloneNames m.names (by omega)) (hJ _ rfl)) fun t ht => ?_
  subst ht
  refine T.lp (ι := Int × GTab × GTmk) (fun q => 0 ≤ q.1 ∧ q.1 ≤ m.names.length ∧ q.2.1.names = m.names ∧ (q.2.1.roots.length : Int) = q.1 ∧ q.2.2.m = m ∧ q.2.2.types.l.length ≤ 300 ∧ SpR q.2.2.types.l 0 q.2.2.types.l.length) (fun q => ((m.names.length : Int) - q.1).toNat) ⟨Int.le_refl _, by dsimp only; omega, rfl, rfl, rfl, Nat.zero_le _, SpR.nil⟩ (by dsimp only; omega) fun L q ⟨q1, q2, q3, q4, q5, q6, q7⟩ hL => ?_
  obtain ⟨i, t, y⟩ := q
  dsimp only at q1 q2 q3 q4 q5 q6 q7 hL ⊢
  refine T.br (fun hb => ?_) fun hb => T.some ⟨fun e => absurd rfl e, fun _ => ⟨q6, by dsimp only; rw [q3]; have := of_decide_eq_false hb; omega, q7⟩⟩
  have hb := of_decide_eq_true hb
  obtain ⟨c, d, c1, c2, c3, c4⟩ := E.root i q1 hb
  have hrk := E.rk40 i
  have hnl := w.nodes
  refine T.get q1 (by omega) fun k hk => ?_
  rw [c1] at hk
  cases hk
  obtain ⟨N, hN⟩ : ∃ N, N = rk i * 301 + (d - c) := ⟨_, rfl⟩
  have hNb : N ≤ 12400 := by
    have := Nat.mul_le_mul_right 301 hrk
    omega
  refine T.cal ((makerS_tot E N (by omega)).2.2.2 fuel (by unfold fuel; omega) y c d 17 i 0 q5 q6 c2 c3 c4 (by omega) (Int.le_refl _) (by omega)) fun r _ ⟨r1, r2⟩ => T.br (fun h => T.some ⟨fun _ => rfl, fun e => absurd e (by simpa using h)⟩) fun h => ?_
  have h : r.2.1 = 0 := by simpa using h
  obtain ⟨e1, ⟨a1, a2, a3⟩, _⟩ := r2 h
  refine T.abl (by simp only [List.length_singleton]; omega) (T.ck (by omega) (hL _ ⟨by dsimp only; omega, by dsimp only; omega, q3, by dsimp only; rw [List.length_append, List.length_singleton]; omega, r1.m.trans q5, r1.lim, ?_⟩ (by dsimp only; omega)))
  exact SpR.app (SpR.mono (fun k _ hk => a1 k hk) q7) a3 r1.le
theorem sound_true (s : Str) : law10_TableSound s = some true := by
  refine T.eqs ?_
  unfold law10_TableSound
  refine T.cal (parse_tot s) fun p _ hp => T.jp (fun _ => True) (fun J hJ => T.br (fun _ => hJ _ trivial) fun _ => hJ _ trivial) fun b _ => T.br (fun _ => T.eq awake10 (T.some rfl)) fun _ => ?_
  refine T.cal (makeS_tot hp) fun y _ ⟨y1, y2⟩ => T.eq awake10 ?_
  refine T.jp (fun b => b = true ↔ y.2.2 ≠ 0) (fun J hJ => T.brF rfl (hJ _ ?_)) fun b1 hb1 => T.br (fun h => ?_) fun h => ?_
  · simp
  · rw [y1 (hb1.1 h)]
    refine T.eq awake10 (T.jp (fun b => b = true) (fun J hJ => T.brT rfl (T.eq (y := true) (by kernel_rfl) (hJ _ rfl))) fun b hb => T.some hb)
  have h0 : y.2.2 = 0 := by
    rcases Int.lt_trichotomy y.2.2 0 with h' | h' | h'
    · have := hb1.2 (by omega); rw [h] at this; cases this
    · exact h'
    · have := hb1.2 (by omega); rw [h] at this; cases this
  obtain ⟨l1, l2, l3⟩ := y2 h0
  refine T.jp (fun b => b = false) (fun J hJ => T.brF (decide_eq_false (by omega)) (hJ _ (by rw [decide_eq_true (by omega)]; rfl))) fun b2 hb2 => T.brF hb2 ?_
  refine T.lp (fun (i : Int) => 0 ≤ i ∧ i ≤ y.1.types.length) (fun (i : Int) => ((y.1.types.length : Int) - i).toNat) ⟨Int.le_refl _, by omega⟩ (by omega) fun L i ⟨i1, i2⟩ hL => ?_
  refine T.br (fun hb => ?_) fun _ => T.some rfl
  have hb := of_decide_eq_true hb
  refine T.get i1 hb fun t ht => ?_
  obtain ⟨⟨c, D, c1, c2, c3, c4⟩, ⟨c5, c6⟩, c7, c8⟩ := l3 i.toNat t (Nat.zero_le _) (by omega) ht
  have hfl := kids_len c3
  rw [List.length_map] at hfl
  refine T.jp (fun b => b = false) (fun J hJ => T.brF (decide_eq_false (by omega)) (hJ _ (decide_eq_false (by omega)))) fun b3 hb3 => ?_
  refine T.jp (fun b => b = false) (fun J hJ => T.brF hb3 (T.jp (fun b => b = false) (fun J2 h2 => T.br (fun h9 => h2 _ (decide_eq_false fun e => ?_)) fun _ => h2 _ rfl) fun b hb => hJ _ hb)) fun b4 hb4 => ?_
  · have h9 : t.kind ≠ 9 := by simpa using h9
    exact c6 h9 (List.eq_nil_of_length_eq_zero (by omega))
  refine T.jp (fun b => b = false) (fun J hJ => T.brF hb4 (T.jp (fun b => b = false) (fun J2 h2 => T.br (fun h10 => ?_) fun _ => h2 _ rfl) fun b hb => hJ _ hb)) fun b5 hb5 => T.brF hb5 ?_
  · obtain ⟨o, o1, o2, o3⟩ := c8 (of_decide_eq_true h10)
    exact T.jp (fun b => b = false) (fun J3 h3 => T.brF (decide_eq_false (by omega)) (h3 _ (decide_eq_false (by omega)))) fun b hb => h2 _ hb
  have hbl : (t.fields.flatMap fun f => bgs D y.1.types f.ty).length ≤ 300 := by
    have := kids_flat (bgs D y.1.types) (fun _ _ hs => bgs_len hs) c3
    rw [List.flatMap_map] at this
    omega
  refine T.lp (ι := List (List Tag) × Int) (fun q => 0 ≤ q.2 ∧ q.2 ≤ t.fields.length ∧ (q.1.length : Int) = q.2 ∧ q.1.flatten = (t.fields.take q.2.toNat).flatMap fun f => bgs D y.1.types f.ty) (fun q => ((t.fields.length : Int) - q.2).toNat) ⟨Int.le_refl _, by dsimp only; omega, rfl, rfl⟩ (by dsimp only; omega) fun L2 q ⟨q1, q2, q3, q4⟩ hL2 => ?_
  obtain ⟨sets, k⟩ := q
  dsimp only at q1 q2 q3 q4 hL2 ⊢
  refine T.br (fun hb6 => ?_) fun hb6 => ?_
  · have hb6 := of_decide_eq_true hb6
    refine T.get q1 hb6 fun f hf => ?_
    have hfm := List.mem_of_getElem? hf
    obtain ⟨a, e, e1, e2, e3, e4⟩ := Kids.mem3 SubT.le' c3 (List.mem_map.2 ⟨f, hfm, rfl⟩)
    have hlt := e2.lt
    obtain ⟨g1, g2⟩ := c7 f hfm
    refine T.jp (fun b => b = false) (fun J hJ => T.brF (decide_eq_false (by omega)) (hJ _ (decide_eq_false (by omega)))) fun b6 hb7 => ?_
    refine T.jp (fun b => b = false) (fun J hJ => T.brF hb7 (T.jp (fun b => b = false) (fun J2 h2 => T.br (fun hh => ?_) fun _ => h2 _ rfl) fun b hb => hJ _ hb)) fun b7 hb8 => ?_
    · obtain ⟨u, u1, u2⟩ := g1 hh
      exact T.get (by omega) (by omega) fun z hz => by
        rw [u1] at hz
        cases hz
        exact h2 _ (by rw [decide_eq_true u2]; rfl)
    refine T.jp (fun b => b = false) (fun J hJ => T.brF hb8 (T.jp (fun b => b = false) (fun J2 h2 => T.br (fun hh => h2 _ ?_) fun _ => h2 _ rfl) fun b hb => hJ _ hb)) fun b8 hb9 => T.brF hb9 ?_
    · cases ho : f.optional with
      | false => rfl
      | true => exact absurd ⟨hh, ho⟩ g2
    have hbeg : r10_Begins y.1 f.ty = some (bgs D y.1.types f.ty) := by
      refine T.eqs ?_
      unfold r10_Begins
      rw [e1]
      have hbl1 := bgs_len e2
      refine T.jp (fun b => b = false) (fun J hJ => T.brF (decide_eq_false (by omega)) (hJ _ (decide_eq_false (by omega)))) fun b hb => T.brF hb (T.eq (begins10_eq e2 (by unfold fuel; omega) (by omega)) (T.abl (by simp only [List.length_nil, Nat.zero_add]; omega) (T.some (List.nil_append _))))
    have hnx := take_flat (f := fun f : GFld => bgs D y.1.types f.ty) hf
    refine T.eq hbeg (T.abl (by simp only [List.length_singleton]; omega) (T.ck (by omega) (hL2 _ ⟨by dsimp only; omega, by dsimp only; omega, by dsimp only; rw [List.length_append, List.length_singleton]; omega, ?_⟩ (by dsimp only; omega))))
    dsimp only
    rw [show (k + 1).toNat = k.toNat + 1 by omega, hnx, List.flatten_append, q4]
    simp
  · have hb6 := of_decide_eq_false hb6
    rw [List.take_of_length_le (by omega)] at q4
    refine T.jp (fun b => b = false) (fun J hJ => T.br (fun h7 => ?_) fun _ => hJ _ rfl) fun b9 hb9 => T.brF hb9 (T.ck (by omega) (hL _ (by omega) (by omega)))
    have h7 : t.kind ≠ 7 := by simpa using h7
    refine T.eq (distinct9_eq sets (by omega) (by rw [q4]; omega)) (hJ _ ?_)
    rw [q4, decide_eq_true (c4 h7)]; rfl
end Go.Proofs.YtiibmpdjkdjbiaaGreatDoor

