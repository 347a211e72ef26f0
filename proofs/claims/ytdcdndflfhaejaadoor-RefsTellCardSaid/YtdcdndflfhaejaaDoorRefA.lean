/- Lists without doubles, places of names, and what the small functions of both sides answer. No condition: general lemmas. -/
import Derived.Test.YtdcdndflfhaejaaDoorParF
namespace Go.Proofs.YtdcdndflfhaejaaDoor
open Go.Sy
set_option linter.unusedVariables false

theorem T.eqs {β : Type} {o : Option β} {x : β} (h : T (fun r => r = x) o) : o = some x := by
  obtain ⟨r, h1, h2⟩ := h; rw [h1, h2]
section lists
variable {α β : Type} [DecidableEq α] [DecidableEq β]
/-- One more, if it is not there yet. -/
def add (l : List α) (x : α) : List α := if x ∈ l then l else l ++ [x]
def adds (l xs : List α) : List α := xs.foldl add l
theorem adds_nil (l : List α) : adds l [] = l := rfl
theorem adds_cons (l : List α) (x : α) (xs : List α) : adds l (x :: xs) = adds (add l x) xs := rfl
theorem adds_append (l xs ys : List α) : adds l (xs ++ ys) = adds (adds l xs) ys := by unfold adds; rw [List.foldl_append]
theorem mem_add {l : List α} {x y : α} : y ∈ add l x ↔ y ∈ l ∨ y = x := by
  unfold add
  split
  · rename_i h
    exact ⟨.inl, fun h2 => h2.elim (fun h => h) fun e => by rw [e]; exact h⟩
  · rw [List.mem_append, List.mem_singleton]
theorem mem_adds {xs : List α} : ∀ {l : List α} {y : α}, y ∈ adds l xs ↔ y ∈ l ∨ y ∈ xs := by
  induction xs with
  | nil => intro l y; rw [adds_nil]; simp
  | cons x xs ih => intro l y; rw [adds_cons, ih, mem_add, List.mem_cons, or_assoc]
theorem nodup_add {l : List α} {x : α} (h : l.Nodup) : (add l x).Nodup := by
  unfold add
  split
  · exact h
  · rename_i hx
    rw [List.nodup_append]
    exact ⟨h, by simp, fun a ha b hb => by rw [List.mem_singleton.1 hb]; exact fun e => hx (e ▸ ha)⟩
theorem nodup_adds {xs : List α} : ∀ {l : List α}, l.Nodup → (adds l xs).Nodup := by
  induction xs with
  | nil => intro l h; exact h
  | cons x xs ih => intro l h; rw [adds_cons]; exact ih (nodup_add h)
theorem length_add (l : List α) (x : α) : (add l x).length ≤ l.length + 1 := by
  unfold add; split
  · omega
  · rw [List.length_append, List.length_singleton]; omega
theorem length_adds (xs : List α) : ∀ l : List α, (adds l xs).length ≤ l.length + xs.length := by
  induction xs with
  | nil => intro l; exact Nat.le_refl _
  | cons x xs ih => intro l; rw [adds_cons, List.length_cons]; have := ih (add l x); have := length_add l x; omega
/-- What is found among what there is once, is what there is once of what is found. -/
theorem filterMap_adds (f : α → Option β) (hf : ∀ a b c, f a = some c → f b = some c → a = b) : ∀ (xs l : List α), (adds l xs).filterMap f = adds (l.filterMap f) (xs.filterMap f) := by
  intro xs
  induction xs with
  | nil => intro l; rfl
  | cons x xs ih =>
    intro l
    rw [adds_cons, ih]
    cases hx : f x with
    | none =>
      rw [List.filterMap_cons_none hx]
      congr 1
      unfold add
      split
      · rfl
      · rw [List.filterMap_append]; simp [hx]
    | some c =>
      rw [List.filterMap_cons_some hx, adds_cons]
      congr 1
      unfold add
      have hiff : x ∈ l ↔ c ∈ l.filterMap f := by
        rw [List.mem_filterMap]
        exact ⟨fun h => ⟨x, h, hx⟩, fun ⟨a, h, e⟩ => hf _ _ _ e hx ▸ h⟩
      by_cases h : x ∈ l
      · rw [if_pos h, if_pos (hiff.1 h)]
      · rw [if_neg h, if_neg (fun h2 => h (hiff.2 h2)), List.filterMap_append]
        simp [hx]
theorem length_le_of_nodup : ∀ {a b : List α}, a.Nodup → (∀ x ∈ a, x ∈ b) → a.length ≤ b.length := by
  intro a
  induction a with
  | nil => intro b _ _; exact Nat.zero_le _
  | cons x a ih =>
    intro b hn hs
    rw [List.nodup_cons] at hn
    have hx := hs x List.mem_cons_self
    have h1 := ih (b := b.erase x) hn.2 fun y hy => (List.mem_erase_of_ne (fun e : y = x => hn.1 (e ▸ hy))).2 (hs y (List.mem_cons_of_mem _ hy))
    have h2 := List.length_erase_of_mem hx
    have h3 := List.length_pos_of_mem hx
    rw [List.length_cons]
    omega
/-- The numbers below n. -/
def nums (n : Nat) : List Int := (List.range n).map (fun (k : Nat) => (k : Int))
theorem mem_nums {n : Nat} {x : Int} : x ∈ nums n ↔ 0 ≤ x ∧ x < n := by
  unfold nums
  rw [List.mem_map]
  refine ⟨fun ⟨k, hk, e⟩ => ?_, fun ⟨h1, h2⟩ => ⟨x.toNat, List.mem_range.2 (by omega), by omega⟩⟩
  have := List.mem_range.1 hk
  omega
theorem length_nums (n : Nat) : (nums n).length = n := by unfold nums; rw [List.length_map, List.length_range]
theorem nodup_nums (n : Nat) : (nums n).Nodup := by
  unfold nums
  rw [List.Nodup, List.pairwise_map]
  exact List.Pairwise.imp (fun {a b : Nat} (h : a ≠ b) (e : (a : Int) = (b : Int)) => h (by omega)) (List.nodup_range : (List.range n).Nodup)
end lists

/-! ### Places of names -/
def fndFrom : List Str → Str → Int → Int
  | [], _, _ => -1
  | y :: r, s, k => if y = s then k else fndFrom r s (k + 1)
def fnd (l : List Str) (s : Str) : Int := fndFrom l s 0
theorem fndFrom_spec : ∀ (l : List Str) (s : Str) (k : Int), 0 ≤ k → (fndFrom l s k = -1 ∧ s ∉ l) ∨ (k ≤ fndFrom l s k ∧ fndFrom l s k < k + l.length ∧ l[(fndFrom l s k - k).toNat]? = some s ∧ ∀ j : Nat, j < (fndFrom l s k - k).toNat → l[j]? ≠ some s) := by
  intro l
  induction l with
  | nil => intro s k _; exact .inl ⟨rfl, by simp⟩
  | cons y r ih =>
    intro s k hk
    unfold fndFrom
    by_cases h : y = s
    · rw [if_pos h]
      right
      refine ⟨Int.le_refl _, by simp only [List.length_cons]; omega, by rw [h]; simp, fun j hj => by omega⟩
    · rw [if_neg h]
      rcases ih s (k + 1) (by omega) with ⟨h1, h2⟩ | ⟨h1, h2, h3, h4⟩
      · left
        refine ⟨h1, ?_⟩
        rw [List.mem_cons]
        exact fun h5 => h5.elim (fun e => h e.symm) h2
      · right
        have e : (fndFrom r s (k + 1) - k).toNat = (fndFrom r s (k + 1) - (k + 1)).toNat + 1 := by omega
        refine ⟨by omega, by simp only [List.length_cons]; omega, by rw [e, List.getElem?_cons_succ]; exact h3, fun j hj => ?_⟩
        cases j with
        | zero => simp only [List.getElem?_cons_zero]; exact fun e => h (Option.some.inj e)
        | succ j => rw [List.getElem?_cons_succ]; exact h4 j (by omega)
theorem fnd_spec (l : List Str) (s : Str) : (fnd l s = -1 ∧ s ∉ l) ∨ (0 ≤ fnd l s ∧ fnd l s < l.length ∧ l[(fnd l s).toNat]? = some s ∧ ∀ j : Nat, j < (fnd l s).toNat → l[j]? ≠ some s) := by
  have := fndFrom_spec l s 0 (Int.le_refl _)
  unfold fnd
  simpa using this
/-- The place, if there is one. -/
def idx (l : List Str) (s : Str) : Option Int := if fnd l s < 0 then none else some (fnd l s)
theorem idx_inj (l : List Str) : ∀ a b c, idx l a = some c → idx l b = some c → a = b := by
  intro a b c h1 h2
  unfold idx at h1 h2
  split at h1
  · cases h1
  split at h2
  · cases h2
  cases h1
  have h3 := Option.some.inj h2
  rcases fnd_spec l a with h | h
  · omega
  rcases fnd_spec l b with h' | h'
  · omega
  have e1 := h.2.2.1
  have e2 := h'.2.2.1
  rw [h3, e1] at e2
  cases e2; rfl
theorem idx_range {l : List Str} {s : Str} {c : Int} (h : idx l s = some c) : 0 ≤ c ∧ c < l.length := by
  unfold idx at h
  split at h
  · cases h
  cases h
  rcases fnd_spec l s with h' | h'
  · omega
  · exact ⟨h'.1, h'.2.1⟩
theorem find7_eq (m : GMod) (s : Str) (hl : m.names.length ≤ 1000000) : r07_Find m s = some (fnd m.names s) := by
  refine T.eqs ?_
  unfold r07_Find
  refine T.lp (fun (k : Int) => 0 ≤ k ∧ k ≤ (m.names.length : Int) ∧ fnd m.names s = fndFrom (m.names.drop k.toNat) s k) (fun (k : Int) => ((m.names.length : Int) - k).toNat) ⟨Int.le_refl _, by omega, rfl⟩ (by omega) fun L k ⟨h1, h2, h3⟩ hL => ?_
  refine T.br (fun hb => ?_) fun hb => T.some ?_
  · have hb := of_decide_eq_true hb
    refine T.get h1 hb fun y hy => ?_
    have hd : m.names.drop k.toNat = y :: m.names.drop (k.toNat + 1) := by
      rw [List.drop_eq_getElem_cons (by omega)]
      rw [List.getElem?_eq_getElem (by omega)] at hy
      rw [Option.some.inj hy]
    rw [hd] at h3
    unfold fndFrom at h3
    refine T.br (fun he => T.some ?_) fun he => T.ck (by omega) (hL _ ⟨by omega, by omega, ?_⟩ (by omega))
    · rw [h3, if_pos (of_decide_eq_true he)]
    · have e : (k + 1).toNat = k.toNat + 1 := by omega
      rw [h3, if_neg (of_decide_eq_false he), e]
  · have hb := of_decide_eq_false hb
    rw [List.drop_eq_nil_of_le (by omega)] at h3
    exact h3.symm
theorem index_eq (l : List Str) (s : Str) (hl : l.length ≤ 1000000) : slices_Index_Lstring_string l s = some (fnd l s) := by
  refine T.eqs ?_
  unfold slices_Index_Lstring_string
  refine T.lp (fun (k : Int) => 0 ≤ k ∧ k ≤ (l.length : Int) ∧ fnd l s = fndFrom (l.drop k.toNat) s k) (fun (k : Int) => ((l.length : Int) - k).toNat) ⟨Int.le_refl _, by omega, rfl⟩ (by omega) fun L k ⟨h1, h2, h3⟩ hL => ?_
  refine T.br (fun hb => ?_) fun hb => T.some ?_
  · have hb := of_decide_eq_true hb
    refine T.get h1 hb fun y hy => ?_
    have hd : l.drop k.toNat = y :: l.drop (k.toNat + 1) := by
      rw [List.drop_eq_getElem_cons (by omega)]
      rw [List.getElem?_eq_getElem (by omega)] at hy
      rw [Option.some.inj hy]
    rw [hd] at h3
    unfold fndFrom at h3
    refine T.br (fun he => T.some ?_) fun he => T.ck (by omega) (hL _ ⟨by omega, by omega, ?_⟩ (by omega))
    · rw [h3, if_pos (of_decide_eq_true he).symm]
    · have e : (k + 1).toNat = k.toNat + 1 := by omega
      rw [h3, if_neg (fun h => of_decide_eq_false he h.symm), e]
  · have hb := of_decide_eq_false hb
    rw [List.drop_eq_nil_of_le (by omega)] at h3
    exact h3.symm
theorem find_eq (m : GMod) (s : Str) (hl : m.names.length ≤ 1000000) : refs_Find m s = some (fnd m.names s) := by
  unfold refs_Find
  exact T.eqs (T.eq (index_eq _ _ hl) (T.some rfl))
theorem fnd_mem (l : List Str) (s : Str) : decide ((0 : Int) ≤ fnd l s) = decide (s ∈ l) := by
  rcases fnd_spec l s with h | h
  · rw [decide_eq_false h.2, decide_eq_false (by omega)]
  · rw [decide_eq_true h.1, decide_eq_true (List.mem_of_getElem? h.2.2.1)]
theorem contains_eq (l : List Str) (s : Str) (hl : l.length ≤ 1000000) : slices_Contains_Lstring_string l s = some (decide (s ∈ l)) := by
  unfold slices_Contains_Lstring_string
  exact T.eqs (T.eq (index_eq _ _ hl) (T.some (fnd_mem l s)))
theorem with1_eq (l : List Str) (s : Str) (hl : l.length ≤ 10000) : refs_with l [s] = some (add l s) := by
  refine T.eqs ?_
  unfold refs_with
  refine T.lp (fun (q : List Str × Int) => (q.2 = 0 ∧ q.1 = l) ∨ (q.2 = 1 ∧ q.1 = add l s)) (fun (q : List Str × Int) => (1 - q.2).toNat) (.inl ⟨rfl, rfl⟩) (by dsimp only; omega) fun L q hq hL => ?_
  obtain ⟨l1, k⟩ := q
  dsimp only at hq ⊢
  refine T.br (fun hb => ?_) fun hb => T.some ?_
  · have hb : k < 1 := of_decide_eq_true hb
    rcases hq with ⟨h1, h2⟩ | ⟨h1, h2⟩
    · subst h1; subst h2
      refine T.jp (fun q => q = add l1 s) (fun J h => T.get (Int.le_refl _) (by simp) fun y hy => ?_) fun q hq => T.ck (by omega) (hL _ (.inr ⟨rfl, hq⟩) (by dsimp only; omega))
      have hy : s = y := by simpa using hy
      subst hy
      refine T.eq (contains_eq _ _ (by omega)) (T.br (fun h3 => T.abl (by simp only [List.length_singleton]; omega) (h _ ?_)) fun h3 => h _ ?_)
      · unfold add; rw [if_neg (by simpa using h3)]
      · unfold add; rw [if_pos (by simpa using h3)]
    · omega
  · have hb : ¬ k < 1 := of_decide_eq_false hb
    rcases hq with ⟨h1, h2⟩ | ⟨h1, h2⟩
    · omega
    · exact h2
end Go.Proofs.YtdcdndflfhaejaaDoor
