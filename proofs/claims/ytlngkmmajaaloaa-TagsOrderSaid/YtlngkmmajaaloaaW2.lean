/- Walks of the laws. -/
import Derived.Test.YtlngkmmajaaloaaW1
namespace Go.Proofs.Ytlngkmmajaaloaa
open Go.Sy
theorem order_spec (a b c : Tag) : Ctr Try.prog 5 [isv a, isv b, isv c] [] (pureP true) := by
  refine spec_intro Try.func5 rfl (by decide +kernel) (by rfl) fun w0 S0 => ?_
  refine w_seq ?_
  refine w_region ?_
  refine op_cons rfl (t_boxI rfl ?_)
  refine op_cons rfl (t_boxI rfl ?_)
  refine op_cons rfl (t_boxI rfl ?_)
  refine op_cons rfl (OpV.t (v_assign rfl) ?_)
  refine rl_nil ?_
  refine fin_nxt ?_
  refine w_seq ?_
  refine w_region ?_
  refine op_cons rfl (OpV.t (v_assign rfl) ?_)
  refine rl_nil ?_
  refine fin_nxt ?_
  refine w_seq ?_
  refine w_seq ?_
  refine w_regionD [(0, false), (1, false), (3, false), (4, false), (6, false), (7, false), (8, false), (11, false), (2, true), (5, true), (9, true), (10, false)] moOrd (by kernel_rfl) ?_
  refine rd_v rfl (v_loadI ty26 rfl) ?_
  refine rd_v rfl (v_loadI ty26 rfl) ?_
  refine rd_v rfl (v_loadI ty26 rfl) ?_
  refine rd_v rfl (v_loadI ty26 rfl) ?_
  refine rd_v rfl (v_loadI ty26 rfl) ?_
  refine rd_v rfl (v_loadI ty26 rfl) ?_
  refine rd_v rfl (v_eqA eq26 rfl rfl) ?_
  refine rd_v rfl (v_move rfl) ?_
  refine rd_t rfl rfl (t_call (less_spec _ _) (.same rfl (.same rfl .nil)) .nil (fun R H' hR => ?_))
  revert R H'; rintro _ _ ⟨rfl, rfl⟩
  refine rd_t rfl rfl (t_call (less_spec _ _) (.same rfl (.same rfl .nil)) .nil (fun R H' hR => ?_))
  revert R H'; rintro _ _ ⟨rfl, rfl⟩
  refine rd_t rfl rfl (t_buildSlice el34 (.same rfl (.same rfl (.same rfl .nil))) rfl rfl ?_)
  refine rd_imp (slots_one (i := 19) rfl (appv_isv)) ?_
  refine rd_v rfl (v_len sl34 rfl) ?_
  refine rd_nil ?_
  refine fin_nxt ?_
  refine w_block ?_
  refine w_loopOn (ι := Nat) (fun k => k ≤ 3) (fun k => [(7, isv ((cnt ((bs a b).take k) : Nat) : Int)), (21, isv (k : Int))]) (fun _ => []) (fun k => 3 - k) (0) ?_ .nil (mod_eq (j := 7) rfl (by first | rfl | exact cnt_t (by assumption) (by assumption) | exact cnt_f (by assumption) (by assumption)) (mod_eq (j := 21) rfl (by first | rfl | omega) mod_nil)) (fun k hI => ?_)
  · exact Nat.zero_le _
  refine w_seq ?_
  refine w_region ?_
  refine op_cons rfl (OpV.t (v_lss rfl rfl) ?_)
  refine rl_nil ?_
  refine fin_nxt ?_
  refine w_seq ?_
  refine w_cond rfl (fun h5b => ?_) (fun h5b => ?_)
  · have h5 := of_decide_eq_true h5b
    have hk : k < 3 := by have hh := h5; simp at hh; omega
    have hc := cnt_le3 a b k
    refine w_skip ?_
    refine fin_nxt ?_
    refine w_seq ?_
    refine w_block ?_
    refine w_seq ?_
    refine w_region ?_
    refine op_cons rfl (OpV.t (v_indexAddr ((bs a b)[k]'(hk)) sl34 rfl rfl (by omega) (show (bs a b)[k]? = _ from List.getElem?_eq_getElem hk)) ?_)
    refine op_cons rfl (OpV.t (v_loadI ty4 rfl) ?_)
    refine op_cons rfl (OpV.t (v_assign rfl) ?_)
    refine rl_nil ?_
    refine fin_nxt ?_
    refine w_seq ?_
    refine w_region ?_
    refine op_cons rfl (OpV.t (v_move rfl) ?_)
    refine rl_nil ?_
    refine fin_nxt ?_
    refine w_cond rfl (fun h7b => ?_) (fun h7b => ?_)
    · have h7 := h7b
      refine w_region ?_
      refine op_cons rfl (OpV.t (v_move rfl) ?_)
      refine op_cons rfl (OpV.t (v_add rfl rfl (in_mk (by omega) (by omega))) ?_)
      refine op_cons rfl (OpV.t (v_assign rfl) ?_)
      refine rl_nil ?_
      refine fin_block ?_
      refine fin_nxt ?_
      refine w_region ?_
      refine op_cons rfl (OpV.t (v_add rfl rfl (in_mk (by omega) (by omega))) ?_)
      refine op_cons rfl (OpV.t (v_move rfl) ?_)
      refine rl_nil ?_
      refine fin_loopOn (k + 1) ?_ ?_ 12 rfl rfl (mod_eq (j := 7) rfl (by first | rfl | exact cnt_t (by assumption) (by assumption) | exact cnt_f (by assumption) (by assumption)) (mod_eq (j := 21) rfl (by first | rfl | omega) mod_nil)) .nil
      · omega
      · omega
    · have h7 := h7b
      refine w_skip ?_
      refine fin_block ?_
      refine fin_nxt ?_
      refine w_region ?_
      refine op_cons rfl (OpV.t (v_add rfl rfl (in_mk (by omega) (by omega))) ?_)
      refine op_cons rfl (OpV.t (v_move rfl) ?_)
      refine rl_nil ?_
      refine fin_loopOn (k + 1) ?_ ?_ 9 rfl rfl (mod_eq (j := 7) rfl (by first | rfl | exact cnt_t (by assumption) (by assumption) | exact cnt_f (by assumption) (by assumption)) (mod_eq (j := 21) rfl (by first | rfl | omega) mod_nil)) .nil
      · omega
      · omega
  · have h5 := of_decide_eq_false h5b
    have hk : 3 ≤ k := by have hh := h5; simp at hh; omega
    refine w_exit ?_
    refine exi_nxt ?_
    refine exi_loop ?_
    refine exi_block ?_
    refine fin_nxt ?_
    refine w_seq ?_
    refine w_region ?_
    refine op_cons rfl (t_call (awake_spec) .nil .nil (fun R H' hR => ?_))
    revert R H'; rintro _ _ ⟨rfl, rfl⟩
    refine op_cons rfl (OpV.t (v_move rfl) ?_)
    refine op_take rfl rfl (dj := 30) rfl rfl (OpV.t (v_move rfl) ?_)
    refine op_take rfl rfl (dj := 30) rfl rfl (OpV.t (v_eql rfl rfl) ?_)
    refine op_cons rfl (OpV.t (v_pick_t rfl rfl rfl) ?_)
    refine op_cons rfl (OpV.t (v_move rfl) ?_)
    refine op_take rfl rfl (dj := 34) rfl (decide_eq_true (one_spec a b hk)) (OpV.t (v_loadI ty26 rfl) ?_)
    refine op_take rfl rfl (dj := 34) rfl (decide_eq_true (one_spec a b hk)) (OpV.t (v_loadI ty26 rfl) ?_)
    refine op_take rfl rfl (dj := 34) rfl (decide_eq_true (one_spec a b hk)) (t_call (less_spec _ _) (.same rfl (.same rfl .nil)) .nil (fun R H' hR => ?_))
    revert R H'; rintro _ _ ⟨rfl, rfl⟩
    refine op_take rfl rfl (dj := 34) rfl (decide_eq_true (one_spec a b hk)) (OpV.t (v_not rfl) ?_)
    refine op_take rfl rfl (dj := 34) rfl (decide_eq_true (one_spec a b hk)) (OpV.t (v_move rfl) ?_)
    refine rl_split (j := 39) rfl (fun h10b => ?_) (fun h10b => ?_)
    · have h10 := h10b
      refine op_pass rfl (dj := 39) rfl h10b ?_
      refine op_pass rfl (dj := 39) rfl h10b ?_
      refine op_pass rfl (dj := 39) rfl h10b ?_
      refine op_pass rfl (dj := 39) rfl h10b ?_
      refine op_take rfl rfl (dj := 34) rfl (decide_eq_true (one_spec a b hk)) (OpV.t (v_pick_t rfl h10b rfl) ?_)
      refine op_take rfl rfl (dj := 34) rfl (decide_eq_true (one_spec a b hk)) (OpV.t (v_move rfl) ?_)
      refine op_pass rfl (dj := 45) rfl rfl ?_
      refine op_pass rfl (dj := 45) rfl rfl ?_
      refine op_pass rfl (dj := 45) rfl rfl ?_
      refine op_take rfl rfl (dj := 34) rfl (decide_eq_true (one_spec a b hk)) (OpV.t (v_pick_t rfl rfl rfl) ?_)
      refine op_cons rfl (OpV.t (v_pick_t rfl (decide_eq_true (one_spec a b hk)) rfl) ?_)
      refine op_cons rfl (OpV.t (v_assign rfl) ?_)
      refine rl_nil ?_
      refine fin_nxt ?_
      refine w_ret ?_
      refine ret_post (.tmp rfl .nil) .nil ?_
      first | exact pure1 rfl | exact pure1 (less_tr (by assumption) (by assumption))
    · have h10 := h10b
      refine op_take rfl rfl (dj := 39) rfl h10b (OpV.t (v_loadI ty26 rfl) ?_)
      refine op_take rfl rfl (dj := 39) rfl h10b (OpV.t (v_loadI ty26 rfl) ?_)
      refine op_take rfl rfl (dj := 39) rfl h10b (t_call (less_spec _ _) (.same rfl (.same rfl .nil)) .nil (fun R H' hR => ?_))
      revert R H'; rintro _ _ ⟨rfl, rfl⟩
      refine op_take rfl rfl (dj := 39) rfl h10b (OpV.t (v_not rfl) ?_)
      refine op_take rfl rfl (dj := 34) rfl (decide_eq_true (one_spec a b hk)) (OpV.t (v_pick_f rfl h10b rfl) ?_)
      refine op_take rfl rfl (dj := 34) rfl (decide_eq_true (one_spec a b hk)) (OpV.t (v_move rfl) ?_)
      refine rl_split (j := 45) rfl (fun h12b => ?_) (fun h12b => ?_)
      · have h12 := h12b
        refine op_pass rfl (dj := 45) rfl h12b ?_
        refine op_pass rfl (dj := 45) rfl h12b ?_
        refine op_pass rfl (dj := 45) rfl h12b ?_
        refine op_take rfl rfl (dj := 34) rfl (decide_eq_true (one_spec a b hk)) (OpV.t (v_pick_t rfl h12b rfl) ?_)
        refine op_cons rfl (OpV.t (v_pick_t rfl (decide_eq_true (one_spec a b hk)) rfl) ?_)
        refine op_cons rfl (OpV.t (v_assign rfl) ?_)
        refine rl_nil ?_
        refine fin_nxt ?_
        refine w_ret ?_
        refine ret_post (.tmp rfl .nil) .nil ?_
        first | exact pure1 rfl | exact pure1 (less_tr (by assumption) (by assumption))
      · have h12 := h12b
        refine op_take rfl rfl (dj := 45) rfl h12b (OpV.t (v_loadI ty26 rfl) ?_)
        refine op_take rfl rfl (dj := 45) rfl h12b (OpV.t (v_loadI ty26 rfl) ?_)
        refine op_take rfl rfl (dj := 45) rfl h12b (t_call (less_spec _ _) (.same rfl (.same rfl .nil)) .nil (fun R H' hR => ?_))
        revert R H'; rintro _ _ ⟨rfl, rfl⟩
        refine op_take rfl rfl (dj := 34) rfl (decide_eq_true (one_spec a b hk)) (OpV.t (v_pick_f rfl h12b rfl) ?_)
        refine op_cons rfl (OpV.t (v_pick_t rfl (decide_eq_true (one_spec a b hk)) rfl) ?_)
        refine op_cons rfl (OpV.t (v_assign rfl) ?_)
        refine rl_nil ?_
        refine fin_nxt ?_
        refine w_ret ?_
        refine ret_post (.tmp rfl .nil) .nil ?_
        first | exact pure1 rfl | exact pure1 (less_tr (by assumption) (by assumption))
end Go.Proofs.Ytlngkmmajaaloaa
