/- Walks of TagsDistinct and TagsTell. -/
import Derived.Test.YtlngkmmajaaloaaW4
namespace Go.Proofs.Ytlngkmmajaaloaa
open Go.Sy
theorem distinct_spec (a b c : List Tag) : Ctr Try.prog 6 [isv a, isv b, isv c] [] (pureP true) := by
  refine spec_intro Try.func6 rfl (by decide +kernel) (by rfl) fun w0 S0 => ?_
  refine w_know (i := 0) rfl know_len' (fun hl0 => ?_)
  refine w_know (i := 1) rfl know_len' (fun hl1 => ?_)
  refine w_know (i := 2) rfl know_len' (fun hl2 => ?_)
  refine w_seq ?_
  refine w_region ?_
  refine op_cons rfl (OpV.t (v_assign rfl) ?_)
  refine rl_nil ?_
  refine fin_nxt ?_
  refine w_seq ?_
  refine w_seq ?_
  refine w_region ?_
  refine op_cons rfl (OpV.t (v_move rfl) ?_)
  refine op_cons rfl (OpV.t (v_len sl22 rfl) ?_)
  refine op_cons rfl (OpV.t (v_move rfl) ?_)
  refine op_cons rfl (OpV.t (v_len sl22 rfl) ?_)
  refine op_cons rfl (OpV.t (v_add rfl rfl (in_mk (by omega) (by omega))) ?_)
  refine op_cons rfl (OpV.t (v_move rfl) ?_)
  refine op_cons rfl (OpV.t (v_len sl22 rfl) ?_)
  refine op_cons rfl (OpV.t (v_add rfl rfl (in_mk (by omega) (by omega))) ?_)
  refine op_cons rfl (OpV.t (v_gtr rfl rfl) ?_)
  refine rl_nil ?_
  refine fin_nxt ?_
  refine w_cond rfl (fun h2b => ?_) (fun h2b => ?_)
  · have h2 := of_decide_eq_true h2b
    refine w_seq ?_
    refine w_region ?_
    refine op_cons rfl (t_call (awake_spec) .nil .nil (fun R H' hR => ?_))
    revert R H'; rintro _ _ ⟨rfl, rfl⟩
    refine op_cons rfl (OpV.t (v_assign rfl) ?_)
    refine rl_nil ?_
    refine fin_nxt ?_
    refine w_ret ?_
    refine ret_nxt ?_
    refine ret_post (.tmp rfl .nil) .nil ?_
    first | exact pure1 rfl | exact pure1 (by simp [Tag.apart])
  · have h2 := of_decide_eq_false h2b
    refine w_skip ?_
    refine fin_nxt ?_
    refine w_seq ?_
    refine w_region ?_
    refine op_cons rfl (OpV.t (v_assign rfl) ?_)
    refine rl_nil ?_
    refine fin_nxt ?_
    refine w_seq ?_
    refine w_region ?_
    refine op_cons rfl (OpV.t (v_move rfl) ?_)
    refine rl_imp (slots_one (i := 20) rfl (nilv_appv (α := Tag))) ?_
    refine op_cons rfl (OpV.t (v_move rfl) ?_)
    refine op_cons rfl (t_append ap22_22 rfl rfl (.inl ⟨rfl, rfl⟩) .nil (by simp; omega) (fun t3 => ?_))
    refine op_cons rfl (OpV.t (v_move rfl) ?_)
    refine op_cons rfl (t_append ap22_22 rfl rfl (.inr rfl) (.cons .here .nil) (by simp; omega) (fun t4 => ?_))
    refine op_cons rfl (OpV.t (v_move rfl) ?_)
    refine op_cons rfl (t_append ap22_22 rfl rfl (.inr rfl) (.cons .here .nil) (by simp; omega) (fun t5 => ?_))
    refine op_cons rfl (OpV.t (v_assign rfl) ?_)
    refine rl_imp (slots_one (i := 7) rfl (appv_isv)) ?_
    refine rl_nil ?_
    refine fin_nxt ?_
    refine w_seq ?_
    refine w_region ?_
    refine op_cons rfl (OpV.t (v_assign rfl) ?_)
    refine rl_nil ?_
    refine fin_nxt ?_
    refine w_seq ?_
    refine w_seq ?_
    refine w_region ?_
    refine op_cons rfl (OpV.t (v_assign rfl) ?_)
    refine rl_nil ?_
    refine fin_nxt ?_
    refine w_block ?_
    refine w_loopOn (ι := Nat) (fun k => k ≤ ([] ++ a ++ b ++ c).length) (fun k => [(8, isv (decide (([] ++ a ++ b ++ c).take k).Nodup)), (9, isv (k : Int))]) (fun _ => []) (fun k => ([] ++ a ++ b ++ c).length - k) (0) ?_ .nil (mod_eq (j := 8) rfl (by first | exact want_t (h := hk) (by assumption) | exact want_f (h := hk) (by assumption) | (simp; done)) (mod_eq (j := 9) rfl (by first | rfl | omega) mod_nil)) (fun k hI => ?_)
    · exact Nat.zero_le _
    have hall : ([] ++ a ++ b ++ c).length = a.length + b.length + c.length := by simp; omega
    refine w_seq ?_
    refine w_seq ?_
    refine w_region ?_
    refine op_cons rfl (OpV.t (v_move rfl) ?_)
    refine op_cons rfl (OpV.t (v_move rfl) ?_)
    refine op_cons rfl (OpV.t (v_len sl22 rfl) ?_)
    refine op_cons rfl (OpV.t (v_lss rfl rfl) ?_)
    refine rl_nil ?_
    refine fin_nxt ?_
    refine w_cond rfl (fun h8b => ?_) (fun h8b => ?_)
    · have h8 := of_decide_eq_true h8b
      have hk : k < ([] ++ a ++ b ++ c).length := by have hh := h8; omega
      refine w_skip ?_
      refine fin_nxt ?_
      refine w_seq ?_
      refine w_block ?_
      refine w_regionD [(0, false), (1, false), (2, false), (3, false), (4, false), (5, false), (6, false), (7, false), (8, false), (9, true), (10, false), (11, false), (12, false)] moOrd (by kernel_rfl) ?_
      refine rd_v rfl (v_move rfl) ?_
      refine rd_v rfl (v_move rfl) ?_
      refine rd_split (fun h9b => ?_) (fun h9b => ?_) (j := 34) rfl
      · have h9 := h9b
        refine rd_vt rfl rfl (dj := 34) rfl h9b (v_move rfl) ?_
        refine rd_vt rfl rfl (dj := 34) rfl h9b (v_move rfl) ?_
        refine rd_vt rfl rfl (dj := 34) rfl h9b (v_sliceTo sl22 rfl rfl (by omega) (by omega)) ?_
        refine rd_vt rfl rfl (dj := 34) rfl h9b (v_move rfl) ?_
        refine rd_vt rfl rfl (dj := 34) rfl h9b (v_move rfl) ?_
        refine rd_vt rfl rfl (dj := 34) rfl h9b (v_indexAddr (([] ++ a ++ b ++ c)[k]'hk) sl22 rfl rfl (by omega) (List.getElem?_eq_getElem hk)) ?_
        refine rd_vt rfl rfl (dj := 34) rfl h9b (v_loadI ty26 rfl) ?_
        refine rd_tt rfl rfl rfl (dj := 34) rfl h9b (t_call (in_spec _ _) (.same rfl (.same rfl .nil)) .nil (fun R H' hR => ?_))
        revert R H'; rintro _ _ ⟨rfl, rfl⟩
        refine rd_vt rfl rfl (dj := 34) rfl h9b (v_not rfl) ?_
        refine rd_v rfl (v_pick_t rfl h9b rfl) ?_
        refine rd_v rfl (v_assign rfl) ?_
        refine rd_nil ?_
        refine fin_block ?_
        refine fin_nxt ?_
        refine w_region ?_
        refine op_cons rfl (OpV.t (v_move rfl) ?_)
        refine op_cons rfl (OpV.t (v_add rfl rfl (in_mk (by omega) (by omega))) ?_)
        refine op_cons rfl (OpV.t (v_assign rfl) ?_)
        refine rl_nil ?_
        refine fin_loopOn (k + 1) ?_ ?_ 22 rfl rfl (mod_eq (j := 8) rfl (by first | exact want_t (h := hk) (by assumption) | exact want_f (h := hk) (by assumption) | (simp; done)) (mod_eq (j := 9) rfl (by first | rfl | omega) mod_nil)) (.cons .here .nil)
        · omega
        · omega
      · have h9 := h9b
        refine rd_pass rfl rfl (dj := 34) rfl h9b ?_
        refine rd_pass rfl rfl (dj := 34) rfl h9b ?_
        refine rd_pass rfl rfl (dj := 34) rfl h9b ?_
        refine rd_pass rfl rfl (dj := 34) rfl h9b ?_
        refine rd_pass rfl rfl (dj := 34) rfl h9b ?_
        refine rd_pass rfl rfl (dj := 34) rfl h9b ?_
        refine rd_pass rfl rfl (dj := 34) rfl h9b ?_
        refine rd_pass rfl rfl (dj := 34) rfl h9b ?_
        refine rd_pass rfl rfl (dj := 34) rfl h9b ?_
        refine rd_v rfl (v_pick_f rfl h9b rfl) ?_
        refine rd_v rfl (v_assign rfl) ?_
        refine rd_nil ?_
        refine fin_block ?_
        refine fin_nxt ?_
        refine w_region ?_
        refine op_cons rfl (OpV.t (v_move rfl) ?_)
        refine op_cons rfl (OpV.t (v_add rfl rfl (in_mk (by omega) (by omega))) ?_)
        refine op_cons rfl (OpV.t (v_assign rfl) ?_)
        refine rl_nil ?_
        refine fin_loopOn (k + 1) ?_ ?_ 22 rfl rfl (mod_eq (j := 8) rfl (by first | exact want_t (h := hk) (by assumption) | exact want_f (h := hk) (by assumption) | (simp; done)) (mod_eq (j := 9) rfl (by first | rfl | omega) mod_nil)) (.cons .here .nil)
        · omega
        · omega
    · have h8 := of_decide_eq_false h8b
      have hk : ([] ++ a ++ b ++ c).length ≤ k := by have hh := h8; omega
      refine w_exit ?_
      refine exi_nxt ?_
      refine exi_loop ?_
      refine exi_block ?_
      refine fin_nxt ?_
      refine w_seq ?_
      refine w_region ?_
      refine op_cons rfl (t_call (awake_spec) .nil .nil (fun R H' hR => ?_))
      revert R H'; rintro _ _ ⟨rfl, rfl⟩
      refine op_cons rfl (OpV.t (v_move rfl) ?_)
      refine op_take rfl rfl (dj := 46) rfl rfl (OpV.t (v_move rfl) ?_)
      refine op_take rfl rfl (dj := 46) rfl rfl (OpV.t (v_move rfl) ?_)
      refine op_take rfl rfl (dj := 46) rfl rfl (OpV.t (v_move rfl) ?_)
      refine op_take rfl rfl (dj := 46) rfl rfl (t_buildSlice el43 (.same rfl (.same rfl (.same rfl .nil))) rfl rfl ?_)
      refine op_take rfl rfl (dj := 46) rfl rfl (t_call (dist_spec _) (.cons rfl appv_isv .nil) .nil (fun R H' hR => ?_))
      revert R H'; rintro _ _ ⟨rfl, rfl⟩
      refine op_take rfl rfl (dj := 46) rfl rfl (OpV.t (v_move rfl) ?_)
      refine op_take rfl rfl (dj := 46) rfl rfl (OpV.t (v_eqA eq4 rfl rfl) ?_)
      refine op_cons rfl (OpV.t (v_pick_t rfl rfl rfl) ?_)
      refine op_cons rfl (OpV.t (v_move rfl) ?_)
      refine op_take rfl rfl (dj := 55) rfl (decide_eq_true (apart_perm hk (by simp))) (OpV.t (v_move rfl) ?_)
      refine op_take rfl rfl (dj := 55) rfl (decide_eq_true (apart_perm hk (by simp))) (OpV.t (v_move rfl) ?_)
      refine op_take rfl rfl (dj := 55) rfl (decide_eq_true (apart_perm hk (by simp))) (OpV.t (v_move rfl) ?_)
      refine op_take rfl rfl (dj := 55) rfl (decide_eq_true (apart_perm hk (by simp))) (t_buildSlice el43 (.same rfl (.same rfl (.same rfl .nil))) rfl rfl ?_)
      refine op_take rfl rfl (dj := 55) rfl (decide_eq_true (apart_perm hk (by simp))) (t_call (dist_spec _) (.cons rfl appv_isv .nil) .nil (fun R H' hR => ?_))
      revert R H'; rintro _ _ ⟨rfl, rfl⟩
      refine op_take rfl rfl (dj := 55) rfl (decide_eq_true (apart_perm hk (by simp))) (OpV.t (v_move rfl) ?_)
      refine op_take rfl rfl (dj := 55) rfl (decide_eq_true (apart_perm hk (by simp))) (OpV.t (v_eqA eq4 rfl rfl) ?_)
      refine op_cons rfl (OpV.t (v_pick_t rfl (decide_eq_true (apart_perm hk (by simp))) rfl) ?_)
      refine op_cons rfl (OpV.t (v_move rfl) ?_)
      refine op_take rfl rfl (dj := 64) rfl (decide_eq_true (apart_perm hk (by simpa using (List.perm_append_comm (l₁ := c) (l₂ := a ++ b))))) (OpV.t (v_move rfl) ?_)
      refine op_take rfl rfl (dj := 64) rfl (decide_eq_true (apart_perm hk (by simpa using (List.perm_append_comm (l₁ := c) (l₂ := a ++ b))))) (t_buildSlice el43 (.same rfl .nil) rfl rfl ?_)
      refine op_take rfl rfl (dj := 64) rfl (decide_eq_true (apart_perm hk (by simpa using (List.perm_append_comm (l₁ := c) (l₂ := a ++ b))))) (t_call (dist_spec _) (.cons rfl appv_isv .nil) .nil (fun R H' hR => ?_))
      revert R H'; rintro _ _ ⟨rfl, rfl⟩
      refine op_take rfl rfl (dj := 64) rfl (decide_eq_true (apart_perm hk (by simpa using (List.perm_append_comm (l₁ := c) (l₂ := a ++ b))))) (OpV.t (v_move rfl) ?_)
      refine op_take rfl rfl (dj := 64) rfl (decide_eq_true (apart_perm hk (by simpa using (List.perm_append_comm (l₁ := c) (l₂ := a ++ b))))) (OpV.t (v_eqA eq4 rfl rfl) ?_)
      refine op_cons rfl (OpV.t (v_pick_t rfl (decide_eq_true (apart_perm hk (by simpa using (List.perm_append_comm (l₁ := c) (l₂ := a ++ b))))) rfl) ?_)
      refine op_cons rfl (OpV.t (v_move rfl) ?_)
      refine op_take rfl rfl (dj := 71) rfl (decide_eq_true (apart_perm hk (by simp))) (t_call (dist_spec _) (.cons rfl nilv_isv .nil) .nil (fun R H' hR => ?_))
      revert R H'; rintro _ _ ⟨rfl, rfl⟩
      refine op_cons rfl (OpV.t (v_pick_t rfl (decide_eq_true (apart_perm hk (by simp))) rfl) ?_)
      refine op_cons rfl (OpV.t (v_assign rfl) ?_)
      refine rl_nil ?_
      refine fin_nxt ?_
      refine w_ret ?_
      refine ret_post (.tmp rfl .nil) .nil ?_
      first | exact pure1 rfl | exact pure1 (by simp [Tag.apart])

theorem tell_spec (kind : Int) (a b : Tag) (sets : List (List Tag)) : Ctr Try.prog 7 [isv kind, isv a, isv b, isv sets] [] (pureP true) := by
  refine spec_intro Try.func7 rfl (by decide +kernel) (by rfl) fun w0 S0 => ?_
  refine w_know (i := 0) rfl know_int' (fun hi0 => ?_)
  refine w_know (i := 3) rfl know_len' (fun hl3 => ?_)
  refine w_seq ?_
  refine w_region ?_
  refine op_cons rfl (t_boxI rfl ?_)
  refine op_cons rfl (t_boxI rfl ?_)
  refine op_cons rfl (OpV.t (v_assign rfl) ?_)
  refine rl_nil ?_
  refine fin_nxt ?_
  refine w_seq ?_
  refine w_seq ?_
  refine w_region ?_
  refine op_cons rfl (OpV.t (v_move rfl) ?_)
  refine op_cons rfl (OpV.t (v_len sl43 rfl) ?_)
  refine op_cons rfl (OpV.t (v_gtr rfl rfl) ?_)
  refine rl_nil ?_
  refine fin_nxt ?_
  refine w_cond rfl (fun h2b => ?_) (fun h2b => ?_)
  · have h2 := of_decide_eq_true h2b
    refine w_seq ?_
    refine w_region ?_
    refine op_cons rfl (t_call (awake_spec) .nil .nil (fun R H' hR => ?_))
    revert R H'; rintro _ _ ⟨rfl, rfl⟩
    refine op_cons rfl (OpV.t (v_assign rfl) ?_)
    refine rl_nil ?_
    refine fin_nxt ?_
    refine w_ret ?_
    refine ret_nxt ?_
    refine ret_post (.tmp rfl .nil) .nil ?_
    first | exact pure1 rfl | exact pure1 (decide_eq_true rfl)
  · have h2 := of_decide_eq_false h2b
    refine w_skip ?_
    refine fin_nxt ?_
    refine w_seq ?_
    refine w_seq ?_
    refine w_region ?_
    refine op_cons rfl (OpV.t (v_assign rfl) ?_)
    refine rl_nil ?_
    refine fin_nxt ?_
    refine w_block ?_
    refine w_loopOn (ι := Nat) (fun k => k ≤ sets.length ∧ sets.length ≤ 20 ∧ ∀ s ∈ sets.take k, s.length ≤ 20) (fun k => [(8, anyv), (9, isv (k : Int))]) (fun _ => []) (fun k => sets.length - k) (0) ?_ .nil (mod_cons (j := 8) rfl (fun _ _ _ => trivial) (mod_eq (j := 9) rfl (by first | rfl | omega) mod_nil)) (fun k hI => ?_)
    · exact ⟨Nat.zero_le _, by omega, by simp⟩
    refine w_seq ?_
    refine w_seq ?_
    refine w_region ?_
    refine op_cons rfl (OpV.t (v_move rfl) ?_)
    refine op_cons rfl (OpV.t (v_move rfl) ?_)
    refine op_cons rfl (OpV.t (v_len sl43 rfl) ?_)
    refine op_cons rfl (OpV.t (v_lss rfl rfl) ?_)
    refine rl_nil ?_
    refine fin_nxt ?_
    refine w_cond rfl (fun h4b => ?_) (fun h4b => ?_)
    · have h4 := of_decide_eq_true h4b
      have hk : k < sets.length := by have hh := h4; omega
      refine w_skip ?_
      refine fin_nxt ?_
      refine w_seq ?_
      refine w_block ?_
      refine w_seq ?_
      refine w_region ?_
      refine op_cons rfl (OpV.t (v_move rfl) ?_)
      refine op_cons rfl (OpV.t (v_move rfl) ?_)
      refine op_cons rfl (OpV.t (v_indexAddr (sets[k]'hk) sl43 rfl rfl (by omega) (List.getElem?_eq_getElem hk)) ?_)
      refine op_cons rfl (OpV.t (v_loadI ty22 rfl) ?_)
      refine op_cons rfl (OpV.t (v_len sl22 rfl) ?_)
      refine op_cons rfl (OpV.t (v_gtr rfl rfl) ?_)
      refine rl_nil ?_
      refine fin_nxt ?_
      refine w_cond rfl (fun h6b => ?_) (fun h6b => ?_)
      · have h6 := of_decide_eq_true h6b
        refine w_seq ?_
        refine w_region ?_
        refine op_cons rfl (t_call (awake_spec) .nil .nil (fun R H' hR => ?_))
        revert R H'; rintro _ _ ⟨rfl, rfl⟩
        refine op_cons rfl (OpV.t (v_assign rfl) ?_)
        refine rl_nil ?_
        refine fin_nxt ?_
        refine w_ret ?_
        refine ret_block ?_
        refine ret_nxt ?_
        refine ret_loop ?_
        refine ret_block ?_
        refine ret_nxt ?_
        refine ret_post (.tmp rfl .nil) .nil ?_
        first | exact pure1 rfl | exact pure1 (decide_eq_true rfl)
      · have h6 := of_decide_eq_false h6b
        have hs : (sets[k]'hk).length ≤ 20 := by have hh := h6; omega
        refine w_skip ?_
        refine fin_block ?_
        refine fin_nxt ?_
        refine w_region ?_
        refine op_cons rfl (OpV.t (v_move rfl) ?_)
        refine op_cons rfl (OpV.t (v_add rfl rfl (in_mk (by omega) (by omega))) ?_)
        refine op_cons rfl (OpV.t (v_assign rfl) ?_)
        refine rl_nil ?_
        refine fin_loopOn (k + 1) ?_ ?_ 15 rfl rfl (mod_cons (j := 8) rfl (fun _ _ _ => trivial) (mod_eq (j := 9) rfl (by first | rfl | omega) mod_nil)) .nil
        · exact ⟨by omega, by omega, all_next hk hI.2.2 hs⟩
        · omega
    · have h4 := of_decide_eq_false h4b
      have hfb : sets.flatten.length ≤ 1000000 := flat_400 (by have hh := h4; omega) hI.2.1 hI.2.2
      refine w_exit ?_
      refine exi_nxt ?_
      refine exi_loop ?_
      refine exi_block ?_
      refine fin_nxt ?_
      refine w_seq ?_
      refine w_regionD [(0, true), (1, false), (2, false), (4, false), (3, true), (5, true), (6, false), (7, false), (8, false), (9, false), (10, false), (12, false), (13, false), (11, true), (14, true), (15, false), (16, false), (17, false), (18, false), (20, false), (19, true), (21, true), (22, false), (23, false), (24, false)] moOrd (by kernel_rfl) ?_
      refine rd_t rfl rfl (t_call (awake_spec) .nil .nil (fun R H' hR => ?_))
      revert R H'; rintro _ _ ⟨rfl, rfl⟩
      refine rd_v rfl (v_move rfl) ?_
      refine rd_vt rfl rfl (dj := 28) rfl rfl (v_move rfl) ?_
      refine rd_vt rfl rfl (dj := 28) rfl rfl (v_move rfl) ?_
      refine rd_tt rfl rfl rfl (dj := 28) rfl rfl (t_call (univ_spec _) (.same rfl .nil) .nil (fun R H' hR => ?_))
      revert R H'; rintro _ _ ⟨rfl, rfl⟩
      refine rd_tt rfl rfl rfl (dj := 28) rfl rfl (t_call (runiv_spec _) (.same rfl .nil) .nil (fun R H' hR => ?_))
      revert R H'; rintro _ _ ⟨rfl, rfl⟩
      refine rd_vt rfl rfl (dj := 28) rfl rfl (v_eqA eq26 rfl rfl) ?_
      refine rd_v rfl (v_pick_t rfl rfl rfl) ?_
      refine rd_v rfl (v_move rfl) ?_
      refine rd_vt rfl rfl (dj := 35) rfl (decide_eq_true rfl) (v_loadI ty26 rfl) ?_
      refine rd_vt rfl rfl (dj := 35) rfl (decide_eq_true rfl) (v_loadI ty26 rfl) ?_
      refine rd_vt rfl rfl (dj := 35) rfl (decide_eq_true rfl) (v_loadI ty26 rfl) ?_
      refine rd_vt rfl rfl (dj := 35) rfl (decide_eq_true rfl) (v_loadI ty26 rfl) ?_
      refine rd_tt rfl rfl rfl (dj := 35) rfl (decide_eq_true rfl) (t_call (less_spec _ _) (.same rfl (.same rfl .nil)) .nil (fun R H' hR => ?_))
      revert R H'; rintro _ _ ⟨rfl, rfl⟩
      refine rd_tt rfl rfl rfl (dj := 35) rfl (decide_eq_true rfl) (t_call (rless_spec _ _) (.same rfl (.same rfl .nil)) .nil (fun R H' hR => ?_))
      revert R H'; rintro _ _ ⟨rfl, rfl⟩
      refine rd_vt rfl rfl (dj := 35) rfl (decide_eq_true rfl) (v_eqA eq4 rfl rfl) ?_
      refine rd_v rfl (v_pick_t rfl (decide_eq_true rfl) rfl) ?_
      refine rd_v rfl (v_move rfl) ?_
      refine rd_vt rfl rfl (dj := 44) rfl (decide_eq_true rfl) (v_move rfl) ?_
      refine rd_vt rfl rfl (dj := 44) rfl (decide_eq_true rfl) (v_move rfl) ?_
      refine rd_tt rfl rfl rfl (dj := 44) rfl (decide_eq_true rfl) (t_call (dist_spec _) (.same rfl .nil) .nil (fun R H' hR => ?_))
      revert R H'; rintro _ _ ⟨rfl, rfl⟩
      refine rd_tt rfl rfl rfl (dj := 44) rfl (decide_eq_true rfl) (t_call (rdist_spec _ (by assumption)) (.same rfl .nil) .nil (fun R H' hR => ?_))
      revert R H'; rintro _ _ ⟨rfl, rfl⟩
      refine rd_vt rfl rfl (dj := 44) rfl (decide_eq_true rfl) (v_eqA eq4 rfl rfl) ?_
      refine rd_v rfl (v_pick_t rfl (decide_eq_true rfl) rfl) ?_
      refine rd_v rfl (v_assign rfl) ?_
      refine rd_nil ?_
      refine fin_nxt ?_
      refine w_ret ?_
      refine ret_post (.tmp rfl .nil) .nil ?_
      first | exact pure1 rfl | exact pure1 (decide_eq_true rfl)
end Go.Proofs.Ytlngkmmajaaloaa
