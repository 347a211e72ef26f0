/- In which order names can be made: both sides answer alike. No condition: general lemmas. -/
import Derived.Test.YtdcdndflfhaejaaDoorRefE
namespace Go.Proofs.YtdcdndflfhaejaaDoor
open Go.Sy
set_option linter.unusedVariables false

/-- The first of n numbers, from k on, of which P holds. -/
def first (P : Int → Bool) : Nat → Int → Option Int
  | 0, _ => none
  | n + 1, k => if P k then some k else first P n (k + 1)
theorem first_none {P : Int → Bool} : ∀ {n k}, first P n k = none → ∀ i, k ≤ i → i < k + n → P i = false := by
  intro n
  induction n with
  | zero => intro k _ i h1 h2; omega
  | succ n ih =>
    intro k h i h1 h2
    unfold first at h
    cases hp : P k with
    | true => rw [hp] at h; cases h
    | false =>
      rw [hp] at h
      rcases Int.lt_or_le k i with h3 | h3
      · exact ih h i (by omega) (by omega)
      · have : i = k := by omega
        rw [this]; exact hp
theorem first_some {P : Int → Bool} : ∀ {n k i}, first P n k = some i → k ≤ i ∧ i < k + n ∧ P i = true := by
  intro n
  induction n with
  | zero => intro k i h; cases h
  | succ n ih =>
    intro k i h
    unfold first at h
    cases hp : P k with
    | true => rw [hp] at h; cases h; exact ⟨Int.le_refl _, by omega, hp⟩
    | false => rw [hp] at h; have := ih h; exact ⟨by omega, by omega, this.2.2⟩
/-- How far such a loop is. -/
def At (P : Int → Bool) (n : Nat) (k : Int) : Prop := 0 ≤ k ∧ k ≤ n ∧ first P n 0 = first P ((n : Int) - k).toNat k
theorem At.zero (P : Int → Bool) (n : Nat) : At P n 0 := ⟨Int.le_refl _, by omega, by simp⟩
theorem At.next {P : Int → Bool} {n : Nat} {k : Int} (h : At P n k) (hk : k < n) (hp : P k = false) : At P n (k + 1) := by
  obtain ⟨h1, h2, h3⟩ := h
  have e : ((n : Int) - k).toNat = ((n : Int) - (k + 1)).toNat + 1 := by omega
  rw [e, first, hp] at h3
  exact ⟨by omega, by omega, h3⟩
theorem At.hit {P : Int → Bool} {n : Nat} {k : Int} (h : At P n k) (hk : k < n) (hp : P k = true) : first P n 0 = some k := by
  obtain ⟨h1, h2, h3⟩ := h
  have e : ((n : Int) - k).toNat = ((n : Int) - (k + 1)).toNat + 1 := by omega
  rw [e, first, hp] at h3
  exact h3
theorem At.miss {P : Int → Bool} {n : Nat} {k : Int} (h : At P n k) (hk : ¬ k < n) : first P n 0 = none := by
  obtain ⟨h1, h2, h3⟩ := h
  have e : ((n : Int) - k).toNat = 0 := by omega
  rw [e] at h3
  exact h3

/-! ### What is wrong first -/
/-- What uses what. -/
def gr (m : GMod) : Gr := m.types.map (uses m)
theorem gr_len {m : GMod} (w : WF m) : (gr m).length = m.names.length := by unfold gr; rw [List.length_map]; exact w.types
theorem uses_range {m : GMod} {t x : Int} (h : x ∈ uses m t) : 0 ≤ x ∧ x < m.names.length := by
  unfold uses at h
  rcases mem_adds.1 h with e | e
  · cases e
  · obtain ⟨s, _, h2⟩ := List.mem_filterMap.1 e
    exact idx_range h2
theorem gr_ok {m : GMod} (w : WF m) : GOk (gr m) := by
  refine ⟨by rw [gr_len w]; exact w.names, fun l hl => ?_⟩
  unfold gr at hl
  obtain ⟨t, _, rfl⟩ := List.mem_map.1 hl
  refine ⟨?_, fun j hj => by rw [gr_len w]; exact uses_range hj⟩
  have := length_le_of_nodup (a := uses m t) (b := nums m.names.length) (nodup_adds List.nodup_nil) fun x hx => mem_nums.2 (uses_range hx)
  rw [length_nums] at this
  have := w.names
  omega
def twice (m : GMod) (i : Int) : Bool := match m.names[i.toNat]? with | some s => decide (fnd m.names s < i) | none => false
def none_ (m : GMod) (i : Int) : Bool := match m.types[i.toNat]? with | some t => lost m t | none => false
open Classical in
noncomputable def cycle (m : GMod) (i : Int) : Bool := decide (Reach (gr m) i i)
noncomputable def wr (m : GMod) : Int × Int :=
  match first (twice m) m.names.length 0 with
  | some i => (i, 8)
  | none => match first (none_ m) m.names.length 0 with
    | some i => (i, 9)
    | none => match first (cycle m) m.names.length 0 with
      | some i => (i, 10)
      | none => (0, 0)
open Classical in
theorem cycle_of {m : GMod} {b : Bool} {i : Int} (h : b = true ↔ Reach (gr m) i i) : cycle m i = b := by
  unfold cycle
  cases b with
  | true => exact decide_eq_true (h.1 rfl)
  | false => exact decide_eq_false fun h2 => by cases h.2 h2
theorem of_eq {m : GMod} {i : Int} {t : Int} (h : 0 ≤ i) (ht : m.types[i.toNat]? = some t) : refs_of m i = some t := by
  have hlt : i.toNat < m.types.length := by
    rcases Nat.lt_or_ge i.toNat m.types.length with h1 | h1
    · exact h1
    · rw [List.getElem?_eq_none h1] at ht; cases ht
  refine T.eqs ?_
  unfold refs_of
  refine T.br (fun hb => by have := of_decide_eq_true hb; omega) fun hb => T.get h (by omega) fun y hy => T.some ?_
  rw [ht] at hy; cases hy; rfl
theorem wrong_tot {m : GMod} (w : WF m) : refs_wrong m (gr m) = some (wr m) := by
  have hn := w.names
  have ht := w.types
  have hgl := gr_len w
  refine T.eqs ?_
  unfold refs_wrong
  refine T.lp (fun (k : Int) => At (twice m) m.names.length k) (fun (k : Int) => ((m.names.length : Int) - k).toNat) (At.zero _ _) (by omega) fun L k hk hL => ?_
  have hk0 := hk.1
  refine T.br (fun hb => ?_) fun hb => ?_
  · have hb := of_decide_eq_true hb
    refine T.get hk0 hb fun s hs => T.eq (find_eq m s (by omega)) ?_
    have e : twice m k = decide (fnd m.names s < k) := by unfold twice; rw [hs]
    refine T.br (fun h => T.some ?_) fun h => T.ck (by omega) (hL _ (hk.next hb (by rw [e]; exact h)) (by omega))
    unfold wr; rw [hk.hit hb (by rw [e]; exact h)]
  have m1 := hk.miss (of_decide_eq_false hb)
  refine T.lp (fun (k : Int) => At (none_ m) m.names.length k) (fun (k : Int) => ((m.names.length : Int) - k).toNat) (At.zero _ _) (by omega) fun L k hk hL => ?_
  have hk0 := hk.1
  refine T.br (fun hb => ?_) fun hb => ?_
  · have hb := of_decide_eq_true hb
    obtain ⟨t, htt⟩ : ∃ t, m.types[k.toNat]? = some t := ⟨_, List.getElem?_eq_getElem (by omega)⟩
    refine T.eq (of_eq hk0 htt) (T.eq (lost_eq w t) ?_)
    have e : none_ m k = lost m t := by unfold none_; rw [htt]
    refine T.br (fun h => T.some ?_) fun h => T.ck (by omega) (hL _ (hk.next hb (by rw [e]; exact h)) (by omega))
    unfold wr; rw [m1, hk.hit hb (by rw [e]; exact h)]
  have m2 := hk.miss (of_decide_eq_false hb)
  refine T.lp (fun (k : Int) => At (cycle m) m.names.length k) (fun (k : Int) => ((m.names.length : Int) - k).toNat) (At.zero _ _) (by omega) fun L k hk hL => ?_
  have hk0 := hk.1
  refine T.br (fun hb => ?_) fun hb => T.some ?_
  · have hb := of_decide_eq_true hb
    have en : ((m.names.length : Int)).toNat = m.names.length := by omega
    refine T.asd (by omega) (T.cal (reaches_tot (gr_ok w) hk0 (by omega) _ (by omega)) fun r _ ⟨r1, r2⟩ => T.asd (by rw [List.length_replicate]; exact r1) (T.asd (by omega) ?_))
    obtain ⟨b, hbq⟩ : ∃ b, r[k.toNat]? = some b := ⟨_, List.getElem?_eq_getElem (by omega)⟩
    have e : cycle m k = b := cycle_of (by
      rw [← r2]
      unfold On
      rw [hbq]
      exact ⟨fun h => ⟨hk0, by rw [h]⟩, fun h => Option.some.inj h.2⟩)
    refine T.eq hbq (T.br (fun h => T.some ?_) fun h => T.ck (by omega) (hL _ (hk.next hb (by rw [e]; exact h)) (by omega)))
    unfold wr; rw [m1, m2, hk.hit hb (by rw [e]; exact h)]
  · unfold wr; rw [m1, m2, hk.miss (of_decide_eq_false hb)]
end Go.Proofs.YtdcdndflfhaejaaDoor
