/- Both orders are the same, and what they are. No condition: general lemmas. -/
import Derived.Test.YtdcdndflfhaejaaDoorRefF
namespace Go.Proofs.YtdcdndflfhaejaaDoor
open Go.Sy
set_option linter.unusedVariables false

/-- Is it not there, and all that it uses there? -/
def rdy (U : Gr) (out : List Int) (i : Int) : Bool := decide (i ∉ out) && ((U[i.toNat]?).getD []).all (fun j => decide (j ∈ out))
def topo (U : Gr) : Nat → List Int → List Int
  | 0, out => out
  | k + 1, out => match first (rdy U out) U.length 0 with
    | some i => topo U k (out ++ [i])
    | none => out
noncomputable def ordr (m : GMod) : List Int × Int × Int := if (wr m).2 = 0 then (topo (gr m) m.names.length [], 0, 0) else ([], (wr m).1, (wr m).2)
theorem no_cycle {m : GMod} (w : WF m) (h : (wr m).2 = 0) : ∀ i, ¬ Reach (gr m) i i := by
  intro i hr
  have hi : 0 ≤ i ∧ i < (gr m).length := by
    cases hr with
    | one e => exact (gr_ok w).ed e
    | tail _ e => exact (gr_ok w).ed e
  rw [gr_len w] at hi
  unfold wr at h
  split at h
  · cases h
  split at h
  · cases h
  split at h
  · cases h
  · rename_i h3
    have := first_none h3 i hi.1 (by omega)
    have h4 : cycle m i = true := cycle_of (b := true) ⟨fun _ => hr, fun _ => rfl⟩
    rw [this] at h4; cases h4
theorem first_rdy {m : GMod} (w : WF m) (h : (wr m).2 = 0) {out : List Int} (hl : out.length < m.names.length) : first (rdy (gr m) out) (gr m).length 0 ≠ none := by
  intro hn
  obtain ⟨i, h1, h2, h3, h4⟩ := exists_ready (gr_ok w) (no_cycle w h) out (by rw [gr_len w]; exact hl)
  have := first_none hn i h1 (by omega)
  unfold rdy at this
  rw [decide_eq_true h3, Bool.true_and] at this
  have ha : ((gr m)[i.toNat]?.getD []).all (fun j => decide (j ∈ out)) = true := by
    rw [List.all_eq_true]
    intro j hj
    rw [List.getElem?_eq_getElem (by omega)] at hj
    exact decide_eq_true (h4 j ⟨h1, _, List.getElem?_eq_getElem (by omega), hj⟩)
  rw [this] at ha; cases ha
/-- How far the order is. -/
def Tp (m : GMod) (out : List Int) : Prop := out.length ≤ m.names.length ∧ topo (gr m) (m.names.length - out.length) out = topo (gr m) m.names.length []
theorem Tp.nil (m : GMod) : Tp m [] := ⟨Nat.zero_le _, rfl⟩
theorem Tp.next {m : GMod} {out : List Int} {i : Int} (h : Tp m out) (hl : out.length < m.names.length) (hf : first (rdy (gr m) out) (gr m).length 0 = some i) : Tp m (out ++ [i]) := by
  obtain ⟨h1, h2⟩ := h
  have e : m.names.length - out.length = (m.names.length - (out ++ [i]).length) + 1 := by rw [List.length_append, List.length_singleton]; omega
  rw [e, topo, hf] at h2
  exact ⟨by rw [List.length_append, List.length_singleton]; omega, h2⟩
theorem Tp.done {m : GMod} {out : List Int} (h : Tp m out) (hl : ¬ (out.length : Int) < m.names.length) : out = topo (gr m) m.names.length [] := by
  obtain ⟨h1, h2⟩ := h
  have e : m.names.length - out.length = 0 := by omega
  rw [e] at h2
  exact h2

/-! ### The program's order -/
theorem index_int_tot (l : List Int) (v : Int) (hl : l.length ≤ 1000000) : T (fun r => decide ((0 : Int) ≤ r) = decide (v ∈ l)) (slices_Index_Lint_int l v) := by
  unfold slices_Index_Lint_int
  refine T.lp (fun (k : Int) => 0 ≤ k ∧ k ≤ (l.length : Int) ∧ (v ∈ l ↔ v ∈ l.drop k.toNat)) (fun (k : Int) => ((l.length : Int) - k).toNat) ⟨Int.le_refl _, by omega, Iff.rfl⟩ (by omega) fun L k ⟨h1, h2, h3⟩ hL => ?_
  refine T.br (fun hb => ?_) fun hb => T.some ?_
  · have hb := of_decide_eq_true hb
    refine T.get h1 hb fun y hy => ?_
    rw [drop_cons h1 hy, List.mem_cons] at h3
    refine T.br (fun he => T.some ?_) fun he => T.ck (by omega) (hL _ ⟨by omega, by omega, ?_⟩ (by omega))
    · rw [decide_eq_true h1, decide_eq_true (h3.2 (.inl (of_decide_eq_true he)))]
    · rw [h3]
      exact ⟨fun h => h.elim (fun e => absurd e (of_decide_eq_false he)) fun h => h, .inr⟩
  · have hb := of_decide_eq_false hb
    rw [List.drop_eq_nil_of_le (by omega)] at h3
    rw [decide_eq_false (show ¬ v ∈ l from fun h => by cases h3.1 h)]
    rfl
theorem contains_int_eq (l : List Int) (v : Int) (hl : l.length ≤ 1000000) : slices_Contains_Lint_int l v = some (decide (v ∈ l)) := by
  refine T.eqs ?_
  unfold slices_Contains_Lint_int
  exact T.cal (index_int_tot l v hl) fun r _ hr => T.some hr
theorem containsF_int_eq (l out : List Int) (hl : l.length ≤ 1000000) (ho : out.length ≤ 1000000) : slices_ContainsFunc_Lint_int l out = some (!l.all (fun j => decide (j ∈ out)), out) := by
  have key : T (fun r => r.2 = out ∧ decide ((0 : Int) ≤ r.1) = !l.all (fun j => decide (j ∈ out))) (slices_IndexFunc_Lint_int l out) := by
    unfold slices_IndexFunc_Lint_int
    refine T.lp (fun (q : Int × List Int) => 0 ≤ q.1 ∧ q.1 ≤ (l.length : Int) ∧ q.2 = out ∧ l.all (fun j => decide (j ∈ out)) = (l.drop q.1.toNat).all (fun j => decide (j ∈ out))) (fun (q : Int × List Int) => ((l.length : Int) - q.1).toNat) ⟨Int.le_refl _, by dsimp only; omega, rfl, rfl⟩ (by dsimp only; omega) fun L q ⟨h1, h2, h3, h4⟩ hL => ?_
    obtain ⟨k, o⟩ := q
    dsimp only at h1 h2 h3 h4 ⊢
    subst h3
    refine T.br (fun hb => ?_) fun hb => T.some ⟨rfl, ?_⟩
    · have hb := of_decide_eq_true hb
      refine T.get h1 hb fun y hy => ?_
      rw [drop_cons h1 hy, List.all_cons] at h4
      refine T.eq (y := (!decide (y ∈ o), o)) (T.eqs (by unfold refs_Order_c1; exact T.eq (contains_int_eq _ _ (by omega)) (T.some rfl))) (T.br (fun hf => T.some ⟨rfl, ?_⟩) fun hf => T.ck (by omega) (hL _ ⟨by dsimp only; omega, by dsimp only; omega, rfl, ?_⟩ (by dsimp only; omega)))
      · have hf' : decide (y ∈ o) = false := by simpa using hf
        dsimp only
        rw [h4, hf', decide_eq_true h1]; rfl
      · have hf' : decide (y ∈ o) = true := by simpa using hf
        dsimp only
        rw [h4, hf', Bool.true_and]
    · have hb := of_decide_eq_false hb
      rw [List.drop_eq_nil_of_le (by omega)] at h4
      rw [h4]; rfl
  refine T.eqs ?_
  unfold slices_ContainsFunc_Lint_int
  exact T.cal key fun r _ hr => T.some (by rw [hr.1, hr.2])
theorem order_eq {m : GMod} (w : WF m) : refs_Order m = some (ordr m) := by
  have hn := w.names
  have ht := w.types
  have hgl := gr_len w
  have hgo := gr_ok w
  refine T.eqs ?_
  unfold refs_Order
  refine T.lp (fun (q : List (List Int) × Int) => 0 ≤ q.2 ∧ q.2 ≤ (m.names.length : Int) ∧ (q.1.length : Int) = q.2 ∧ q.1 ++ (m.types.drop q.2.toNat).map (uses m) = gr m) (fun (q : List (List Int) × Int) => ((m.names.length : Int) - q.2).toNat) ⟨Int.le_refl _, by dsimp only; omega, rfl, rfl⟩ (by dsimp only; omega) fun L q ⟨h1, h2, h3, h4⟩ hL => ?_
  obtain ⟨U, k⟩ := q
  dsimp only at h1 h2 h3 h4 ⊢
  refine T.br (fun hb => ?_) fun hb => ?_
  · have hb := of_decide_eq_true hb
    obtain ⟨t, htt⟩ : ∃ t, m.types[k.toNat]? = some t := ⟨_, List.getElem?_eq_getElem (by omega)⟩
    rw [drop_cons h1 htt, List.map_cons] at h4
    refine T.eq (of_eq h1 htt) (T.eq (uses_eq w t) (T.abl (by simp only [List.length_singleton]; omega) (T.ck (by omega) (hL _ ⟨by dsimp only; omega, by dsimp only; omega, by dsimp only; rw [List.length_append, List.length_singleton]; omega, ?_⟩ (by dsimp only; omega)))))
    dsimp only
    rw [← h4]; simp
  have hb := of_decide_eq_false hb
  rw [List.drop_eq_nil_of_le (by omega), List.map_nil, List.append_nil] at h4
  subst h4
  refine T.eq (wrong_tot w) (T.br (fun he => T.some ?_) fun he => ?_)
  · unfold ordr; rw [if_neg (by simpa using he)]
  have he : (wr m).2 = 0 := by simpa using he
  refine T.lp (fun (out : List Int) => Tp m out) (fun (out : List Int) => m.names.length - out.length) (Tp.nil m) (by omega) fun L out ho hL => ?_
  have hol := ho.1
  refine T.br (fun hb => ?_) fun hb => T.some ?_
  · have hb := of_decide_eq_true hb
    have hlt : out.length < m.names.length := by omega
    refine T.lp (fun (q : Int × List Int) => At (rdy (gr m) out) (gr m).length q.1 ∧ q.2 = out) (fun (q : Int × List Int) => ((m.names.length : Int) - q.1).toNat) ⟨At.zero _ _, rfl⟩ (by dsimp only; omega) fun L2 q ⟨hk, hq⟩ hL2 => ?_
    obtain ⟨k, o⟩ := q
    dsimp only at hk hq ⊢
    subst hq
    have hk0 := hk.1
    refine T.br (fun hb2 => ?_) fun hb2 => ?_
    · have hb2 := of_decide_eq_true hb2
      refine T.eq (contains_int_eq o k (by omega)) (T.jp (fun (q : Bool × List Int) => q.1 = rdy (gr m) o k ∧ q.2 = o) (fun J kk => T.br (fun hin => T.get hk0 (by omega) fun l hl => ?_) fun hin => kk _ ⟨?_, rfl⟩) fun q ⟨hq1, hq2⟩ => ?_)
      · have := (hgo.ok l (List.mem_of_getElem? hl)).1
        refine T.eq (containsF_int_eq l o (by omega) (by omega)) (kk _ ⟨?_, rfl⟩)
        have hin : k ∉ o := by simpa using hin
        unfold rdy
        dsimp only
        rw [hl, decide_eq_true hin]
        simp
      · have hin : k ∈ o := by simpa using hin
        unfold rdy
        dsimp only
        rw [decide_eq_false (fun h => h hin)]; rfl
      · obtain ⟨b, o2⟩ := q
        dsimp only at hq1 hq2 ⊢
        subst hq2
        refine T.br (fun hr => T.abl (by simp only [List.length_singleton]; omega) (hL _ (ho.next hlt (hk.hit (by omega) (by rw [← hq1]; exact hr))) (by rw [List.length_append, List.length_singleton]; omega))) fun hr => T.ck (by omega) (hL2 _ ⟨hk.next (by omega) (by rw [← hq1]; exact hr), rfl⟩ (by dsimp only; omega))
    · have hb2 := of_decide_eq_false hb2
      exact absurd (hk.miss (by omega)) (first_rdy w he hlt)
  · unfold ordr; rw [if_pos he, ho.done (of_decide_eq_false hb)]

/-! ### The document's order -/
theorem twice_in {l : List Str} {k : Int} {s : Str} (h0 : 0 ≤ k) (h : l[k.toNat]? = some s) : decide (s ∈ (l.take k.toNat).drop (0 : Int).toNat) = decide (fnd l s < k) := by
  have e0 : (l.take k.toNat).drop (0 : Int).toNat = l.take k.toNat := rfl
  rw [e0]
  rcases fnd_spec l s with h1 | ⟨h1, h2, h3, h4⟩
  · exact absurd (List.mem_of_getElem? h) h1.2
  · by_cases h5 : fnd l s < k
    · rw [decide_eq_true h5]
      refine decide_eq_true (List.mem_of_getElem? (i := (fnd l s).toNat) ?_)
      rw [List.getElem?_take_of_lt (by omega)]
      exact h3
    · rw [decide_eq_false h5]
      refine decide_eq_false fun hm => ?_
      obtain ⟨j, hj⟩ := List.getElem?_of_mem hm
      rw [List.getElem?_take] at hj
      split at hj
      · exact h4 j (by omega) hj
      · cases hj
theorem order7_eq {m : GMod} (w : WF m) : r07_Order m = some (ordr m) := by
  have hn := w.names
  have ht := w.types
  have hgl := gr_len w
  have hgo := gr_ok w
  refine T.eqs ?_
  unfold r07_Order
  refine T.lp (fun (k : Int) => At (twice m) m.names.length k) (fun (k : Int) => ((m.names.length : Int) - k).toNat) (At.zero _ _) (by omega) fun L k hk hL => ?_
  have hk0 := hk.1
  refine T.br (fun hb => ?_) fun hb => ?_
  · have hb := of_decide_eq_true hb
    refine T.asd (by omega) (T.get hk0 hb fun s hs => T.cal (in_string_tot _ s (by rw [List.length_drop, List.length_take]; omega)) fun b _ hbq => ?_)
    rw [twice_in hk0 hs] at hbq
    have e : twice m k = decide (fnd m.names s < k) := by unfold twice; rw [hs]
    refine T.br (fun h => T.some ?_) fun h => T.ck (by omega) (hL _ (hk.next hb (by rw [e, ← hbq]; exact h)) (by omega))
    have : wr m = (k, 8) := by unfold wr; rw [hk.hit hb (by rw [e, ← hbq]; exact h)]
    unfold ordr; rw [this]; rfl
  have m1 := hk.miss (of_decide_eq_false hb)
  refine T.lp (fun (q : List (List Int) × Int × Int) => 0 ≤ q.2.2 ∧ q.2.2 ≤ (m.names.length : Int) ∧ (q.1.length : Int) = q.2.2 ∧ q.1 ++ (m.types.drop q.2.2.toNat).map (uses m) = gr m ∧ ((q.2.1 < 0 ∧ At (none_ m) m.names.length q.2.2) ∨ (0 ≤ q.2.1 ∧ first (none_ m) m.names.length 0 = some q.2.1))) (fun (q : List (List Int) × Int × Int) => ((m.names.length : Int) - q.2.2).toNat) ⟨Int.le_refl _, by dsimp only; omega, rfl, rfl, .inl ⟨by dsimp only; omega, At.zero _ _⟩⟩ (by dsimp only; omega) fun L q ⟨h1, h2, h3, h4, h5⟩ hL => ?_
  obtain ⟨U, mi, k⟩ := q
  dsimp only at h1 h2 h3 h4 h5 ⊢
  refine T.br (fun hb => ?_) fun hb => ?_
  · have hb := of_decide_eq_true hb
    obtain ⟨t, htt⟩ : ∃ t, m.types[k.toNat]? = some t := ⟨_, List.getElem?_eq_getElem (by omega)⟩
    rw [drop_cons h1 htt, List.map_cons] at h4
    have e : none_ m k = lost m t := by unfold none_; rw [htt]
    refine T.jp (fun (q : List (List Int) × Int) => q.1 = U ++ [uses m t] ∧ ((q.2 < 0 ∧ At (none_ m) m.names.length (k + 1)) ∨ (0 ≤ q.2 ∧ first (none_ m) m.names.length 0 = some q.2))) (fun J kk => ?_) fun q ⟨hq1, hq2⟩ => T.ck (by omega) (hL _ ⟨by dsimp only; omega, by dsimp only; omega, ?_, ?_, hq2⟩ (by dsimp only; omega))
    · refine T.get h1 (by omega) fun t' ht' => ?_
      rw [htt] at ht'; cases ht'
      refine T.eq (uses7_eq w t) (T.abl (by simp only [List.length_singleton]; omega) (T.jp (fun b => b = (lost m t && decide (mi < 0))) (fun J2 k2 => T.br (fun h => k2 _ ?_) fun h => k2 _ ?_) fun b hbq => T.br (fun h => kk _ ⟨rfl, ?_⟩) fun h => kk _ ⟨rfl, ?_⟩))
      · dsimp only at h; rw [h]; rfl
      · dsimp only at h; rw [h]; rfl
      · rw [hbq, Bool.and_eq_true] at h
        obtain ⟨l1, l2⟩ := h
        have l2 := of_decide_eq_true l2
        rcases h5 with h5 | h5
        · exact .inr ⟨h1, h5.2.hit hb (by rw [e]; exact l1)⟩
        · omega
      · rw [hbq, Bool.and_eq_false_iff] at h
        rcases h5 with h5 | h5
        · refine .inl ⟨h5.1, h5.2.next hb ?_⟩
          rw [e]
          rcases h with h | h
          · exact h
          · have := of_decide_eq_false h
            exact absurd h5.1 this
        · exact .inr h5
    · dsimp only; rw [hq1, List.length_append, List.length_singleton]; omega
    · dsimp only; rw [hq1, ← h4]; simp
  have hb9 := of_decide_eq_false hb
  rw [List.drop_eq_nil_of_le (by omega), List.map_nil, List.append_nil] at h4
  subst h4
  refine T.br (fun hm => T.some ?_) fun hm => ?_
  · have hm := of_decide_eq_true hm
    have m2 := (h5.resolve_left fun h => by omega).2
    have : wr m = (mi, 9) := by unfold wr; rw [m1, m2]
    unfold ordr; rw [this]; rfl
  have hm := of_decide_eq_false hm
  have m2 := (h5.resolve_right fun h => by omega).2.miss hb9
  refine T.lp (fun (k : Int) => At (cycle m) m.names.length k) (fun (k : Int) => ((m.names.length : Int) - k).toNat) (At.zero _ _) (by omega) fun L k hk hL => ?_
  have hk0 := hk.1
  refine T.br (fun hb => ?_) fun hb => ?_
  · have hb := of_decide_eq_true hb
    refine T.cal (reach_tot hgo (t := k) hk0 (by omega)) fun b _ hbq => ?_
    have e := cycle_of hbq
    refine T.br (fun h => T.some ?_) fun h => T.ck (by omega) (hL _ (hk.next hb (by rw [e]; exact h)) (by omega))
    have : wr m = (k, 10) := by unfold wr; rw [m1, m2, hk.hit hb (by rw [e]; exact h)]
    unfold ordr; rw [this]; rfl
  have m3 := hk.miss (of_decide_eq_false hb)
  have hwr : wr m = (0, 0) := by unfold wr; rw [m1, m2, m3]
  have he : (wr m).2 = 0 := by rw [hwr]
  refine T.lp (fun (out : List Int) => Tp m out) (fun (out : List Int) => m.names.length - out.length) (Tp.nil m) (by omega) fun L out ho hL => ?_
  have hol := ho.1
  refine T.br (fun hb => ?_) fun hb => T.some ?_
  · have hb := of_decide_eq_true hb
    have hlt : out.length < m.names.length := by omega
    refine T.lp (fun (k : Int) => At (rdy (gr m) out) (gr m).length k) (fun (k : Int) => ((m.names.length : Int) - k).toNat) (At.zero _ _) (by omega) fun L2 k hk hL2 => ?_
    have hk0 := hk.1
    refine T.br (fun hb2 => ?_) fun hb2 => ?_
    · have hb2 := of_decide_eq_true hb2
      obtain ⟨l, hl⟩ : ∃ l, (gr m)[k.toNat]? = some l := ⟨_, List.getElem?_eq_getElem (by omega)⟩
      have hll := (hgo.ok l (List.mem_of_getElem? hl)).1
      have hrd : rdy (gr m) out k = (!decide (k ∈ out) && l.all (fun j => decide (j ∈ out))) := by unfold rdy; rw [hl]; simp
      refine T.eq (in_int_eq out k (by omega)) ?_
      refine T.lp (fun (q : Bool × Int) => 0 ≤ q.2 ∧ q.2 ≤ (l.length : Int) ∧ (q.1 && (l.drop q.2.toNat).all (fun j => decide (j ∈ out))) = rdy (gr m) out k) (fun (q : Bool × Int) => ((l.length : Int) - q.2).toNat) ⟨Int.le_refl _, by dsimp only; omega, hrd.symm⟩ (by dsimp only; omega) fun L3 q ⟨g1, g2, g3⟩ hL3 => ?_
      obtain ⟨b, j⟩ := q
      dsimp only at g1 g2 g3 ⊢
      refine T.get hk0 (by omega) fun l' hl' => ?_
      rw [hl] at hl'; cases hl'
      refine T.br (fun hb3 => ?_) fun hb3 => ?_
      · have hb3 := of_decide_eq_true hb3
        obtain ⟨x, hx⟩ : ∃ x, l[j.toNat]? = some x := ⟨_, List.getElem?_eq_getElem (by omega)⟩
        rw [drop_cons g1 hx, List.all_cons, ← Bool.and_assoc] at g3
        refine T.jp (fun c => c = (b && decide (x ∈ out))) (fun J kk => T.br (fun h => T.get hk0 (by omega) fun l' hl' => ?_) fun h => kk _ (by rw [h]; rfl)) fun c hc => T.ck (by omega) (hL3 _ ⟨by dsimp only; omega, by dsimp only; omega, by dsimp only; rw [hc]; exact g3⟩ (by dsimp only; omega))
        rw [hl] at hl'; cases hl'
        refine T.get g1 hb3 fun x' hx' => ?_
        rw [hx] at hx'; cases hx'
        exact T.eq (in_int_eq out x (by omega)) (kk _ (by rw [h]; rfl))
      · have hb3 := of_decide_eq_false hb3
        rw [List.drop_eq_nil_of_le (by omega), List.all_nil, Bool.and_true] at g3
        refine T.br (fun hr => T.abl (by simp only [List.length_singleton]; omega) (hL _ (ho.next hlt (hk.hit (by omega) (by rw [← g3]; exact hr))) (by rw [List.length_append, List.length_singleton]; omega))) fun hr => T.ck (by omega) (hL2 _ (hk.next (by omega) (by rw [← g3]; exact hr)) (by omega))
    · have hb2 := of_decide_eq_false hb2
      exact absurd (hk.miss (by omega)) (first_rdy w he hlt)
  · unfold ordr; rw [if_pos he, ho.done (of_decide_eq_false hb)]
end Go.Proofs.YtdcdndflfhaejaaDoor
