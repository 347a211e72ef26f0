/- Walks of Own, Kept and TagsWrap. -/
import Derived.Test.YtlngkmmajaaloaaW1
namespace Go.Proofs.Ytlngkmmajaaloaa
open Go.Sy
theorem own_spec (l : List Tag) (f : Tag) (hl : l.length ≤ 1000) : Ctr Try.prog 9 [isv l, isv f] [] (fun R H => R = spv l [f, f, f] ∧ H = []) := by
  refine spec_intro Try.func9 rfl (by decide +kernel) (by rfl) fun w0 S0 => ?_
  refine w_know (i := 0) rfl know_len' (fun hl0 => ?_)
  refine w_seq ?_
  refine w_region ?_
  refine op_cons rfl (t_boxI rfl ?_)
  refine op_cons rfl (OpV.t (v_assign rfl) ?_)
  refine rl_nil ?_
  refine fin_nxt ?_
  refine w_seq ?_
  refine w_region ?_
  refine op_cons rfl (OpV.t (v_move rfl) ?_)
  refine op_cons rfl (OpV.t (v_len sl22 rfl) ?_)
  refine op_cons rfl (OpV.t (v_add rfl rfl (in_mk (by omega) (by omega))) ?_)
  refine op_cons rfl (t_makeArr el22 ze26 Try.underlying22 rfl rfl (by omega) (by omega) (by omega) (fun b1 => ?_))
  refine op_cons rfl (OpV.t (v_assign rfl) ?_)
  refine rl_nil ?_
  refine fin_nxt ?_
  refine w_seq ?_
  refine w_region ?_
  refine op_cons rfl (OpV.t (v_move rfl) ?_)
  refine op_cons rfl (OpV.t (v_move rfl) ?_)
  refine op_cons rfl (t_appendA ap22_22 rfl rfl .here (by simp) (by simp; omega) ?_)
  refine op_cons rfl (OpV.t (v_assign rfl) ?_)
  refine rl_nil ?_
  refine fin_nxt ?_
  refine w_seq ?_
  refine w_region ?_
  refine op_cons rfl (OpV.t (v_move rfl) ?_)
  refine op_cons rfl (OpV.t (v_move rfl) ?_)
  refine op_cons rfl (OpV.t (v_len sl22 rfl) ?_)
  refine op_cons rfl (OpV.t (v_add rfl rfl (in_mk (by omega) (by omega))) ?_)
  refine op_cons rfl (OpV.t (v_sliceArr sl22 rfl rfl (by omega) (by omega)) ?_)
  refine op_cons rfl (OpV.t (v_assign rfl) ?_)
  refine rl_nil ?_
  refine fin_nxt ?_
  refine w_seq ?_
  refine w_seq ?_
  refine w_region ?_
  refine op_cons rfl (OpV.t (v_move rfl) ?_)
  refine op_cons rfl (OpV.t (v_len sl22 rfl) ?_)
  refine op_cons rfl (OpV.t (v_assign rfl) ?_)
  refine rl_nil ?_
  refine fin_nxt ?_
  refine w_block ?_
  refine w_loopOn (ι := Nat × List Tag) (fun p => p.1 ≤ 3 ∧ p.2 = l ++ List.replicate p.1 f ++ List.replicate (3 - p.1) Tag.zero) (fun p => [(7, isv ((l.length + p.1 : Nat) : Int))]) (fun p => [arrE b1 p.2]) (fun p => 3 - p.1) ((0, _)) ?_ (.cons .here .nil) (mod_eq (j := 7) rfl (by first | rfl | (simp; done) | (simp; omega)) mod_nil) (fun p hI => ?_)
  · exact ⟨Nat.zero_le _, own_init⟩
  have hlen : p.2.length = l.length + 3 := by rw [hI.2]; simp; omega
  refine w_seq ?_
  refine w_seq ?_
  refine w_region ?_
  refine op_cons rfl (OpV.t (v_move rfl) ?_)
  refine op_cons rfl (OpV.t (v_move rfl) ?_)
  refine op_cons rfl (OpV.t (v_lenA sl22 (by simp [maxList]; omega) rfl) ?_)
  refine op_cons rfl (OpV.t (v_lss rfl rfl) ?_)
  refine rl_nil ?_
  refine fin_nxt ?_
  refine w_cond rfl (fun h3b => ?_) (fun h3b => ?_)
  · have h3 := of_decide_eq_true h3b
    refine w_skip ?_
    refine fin_nxt ?_
    refine w_seq ?_
    refine w_block ?_
    refine w_region ?_
    refine op_cons rfl (OpV.t (v_move rfl) ?_)
    refine op_cons rfl (OpV.t (v_move rfl) ?_)
    refine op_cons rfl (OpV.t (v_loadI ty26 rfl) ?_)
    refine op_cons rfl (OpV.t (v_indexA (α := Tag) (l := []) sl22 rfl rfl (by omega) (by omega)) ?_)
    refine op_cons rfl (t_storeA ty26 rfl rfl .here (by omega) ?_)
    refine rl_nil ?_
    refine fin_block ?_
    refine fin_nxt ?_
    refine w_region ?_
    refine op_cons rfl (OpV.t (v_move rfl) ?_)
    refine op_cons rfl (OpV.t (v_add rfl rfl (in_mk (by omega) (by omega))) ?_)
    refine op_cons rfl (OpV.t (v_assign rfl) ?_)
    refine rl_nil ?_
    refine fin_loopOn ((p.1 + 1, _)) ?_ ?_ 12 rfl rfl (mod_eq (j := 7) rfl (by first | rfl | (simp; done) | (simp; omega)) mod_nil) (.cons .here .nil)
    · exact ⟨by simp only; omega, by rw [hI.2]; exact own_next (by omega)⟩
    · simp only; omega
  · have h3 := of_decide_eq_false h3b
    refine w_exit ?_
    refine exi_nxt ?_
    refine exi_loop ?_
    refine exi_block ?_
    refine fin_nxt ?_
    refine w_seq ?_
    refine w_region ?_
    refine op_cons rfl (OpV.t (v_move rfl) ?_)
    refine op_cons rfl (OpV.t (v_assign rfl) ?_)
    refine rl_nil ?_
    refine fin_nxt ?_
    refine w_freezeSp (i := 4) .here rfl (by omega) (by omega) (by simp [maxList]; omega) ?_
    refine w_ret ?_
    refine ret_post (.tmp rfl .nil) .nil ?_
    exact ⟨own_out (by omega) hI.1 hI.2, rfl⟩

theorem kept_spec (l : List Tag) (f : Tag) (hl : l.length ≤ 1000) : Ctr Try.prog 13 [spv l [f, f, f], isv l, isv f] [] (pureP true) := by
  refine spec_intro Try.func13 rfl (by decide +kernel) (by rfl) fun w0 S0 => ?_
  refine w_know (i := 1) rfl know_len' (fun hl1 => ?_)
  refine w_seq ?_
  refine w_region ?_
  refine op_cons rfl (t_boxI rfl ?_)
  refine op_cons rfl (OpV.t (v_assign rfl) ?_)
  refine rl_nil ?_
  refine fin_nxt ?_
  refine w_seq ?_
  refine w_seq ?_
  refine w_region ?_
  refine op_cons rfl (OpV.t (v_move rfl) ?_)
  refine op_cons rfl (OpV.t (v_move rfl) ?_)
  refine op_cons rfl (t_call (plain_spec _ _) (.cons rfl spv_isv (.same rfl .nil)) .nil (fun R H' hR => ?_))
  revert R H'; rintro _ _ ⟨rfl, rfl⟩
  refine op_cons rfl (OpV.t (v_not rfl) ?_)
  refine op_cons rfl (OpV.t (v_move rfl) ?_)
  refine op_take rfl rfl (dj := 13) rfl (by simp) (OpV.t (v_move rfl) ?_)
  refine op_take rfl rfl (dj := 13) rfl (by simp) (OpV.t (v_capSp sl22 rfl) ?_)
  refine op_take rfl rfl (dj := 13) rfl (by simp) (OpV.t (v_move rfl) ?_)
  refine op_take rfl rfl (dj := 13) rfl (by simp) (OpV.t (v_len sl22 rfl) ?_)
  refine op_take rfl rfl (dj := 13) rfl (by simp) (OpV.t (v_add rfl rfl (in_mk (by omega) (by omega))) ?_)
  refine op_take rfl rfl (dj := 13) rfl (by simp) (OpV.t (v_lss rfl rfl) ?_)
  refine op_cons rfl (OpV.t (v_pick_f rfl (by simp) rfl) ?_)
  refine rl_nil ?_
  refine fin_nxt ?_
  refine w_cond_f rfl (by simp) ?_
  refine w_skip ?_
  refine fin_nxt ?_
  refine w_seq ?_
  refine w_region ?_
  refine op_cons rfl (OpV.t (v_move rfl) ?_)
  refine op_cons rfl (OpV.t (v_move rfl) ?_)
  refine op_cons rfl (OpV.t (v_len sl22 rfl) ?_)
  refine op_cons rfl (OpV.t (v_add rfl rfl (in_mk (by omega) (by omega))) ?_)
  refine op_cons rfl (OpV.t (v_sliceSp sl22 rfl rfl rfl (by omega) (by simp)) ?_)
  refine op_cons rfl (OpV.t (v_assign rfl) ?_)
  refine rl_nil ?_
  refine fin_nxt ?_
  refine w_seq ?_
  refine w_seq ?_
  refine w_region ?_
  refine op_cons rfl (OpV.t (v_move rfl) ?_)
  refine op_cons rfl (OpV.t (v_len sl22 rfl) ?_)
  refine op_cons rfl (OpV.t (v_assign rfl) ?_)
  refine rl_nil ?_
  refine fin_nxt ?_
  refine w_block ?_
  refine w_loopOn (ι := Nat) (fun k => k ≤ 3) (fun k => [(6, anyv), (8, isv ((l.length + k : Nat) : Int))]) (fun _ => []) (fun k => 3 - k) (0) ?_ .nil (mod_cons (j := 6) rfl (fun _ _ _ => trivial) (mod_eq (j := 8) rfl (by first | rfl | (simp; done) | (simp; omega)) mod_nil)) (fun k hI => ?_)
  · exact Nat.zero_le _
  have hkl := kept_len (l := l) (f := f)
  refine w_seq ?_
  refine w_seq ?_
  refine w_region ?_
  refine op_cons rfl (OpV.t (v_move rfl) ?_)
  refine op_cons rfl (OpV.t (v_move rfl) ?_)
  refine op_cons rfl (OpV.t (v_len sl22 rfl) ?_)
  refine op_cons rfl (OpV.t (v_lss rfl rfl) ?_)
  refine rl_nil ?_
  refine fin_nxt ?_
  refine w_cond rfl (fun h4b => ?_) (fun h4b => ?_)
  · have h4 := of_decide_eq_true h4b
    have hk : k < 3 := by have hh := h4; omega
    refine w_skip ?_
    refine fin_nxt ?_
    refine w_seq ?_
    refine w_block ?_
    refine w_seq ?_
    refine w_regionD [(0, false), (1, false), (2, false), (3, false), (4, false), (5, false)] moOrd (by kernel_rfl) ?_
    refine rd_v rfl (v_move rfl) ?_
    refine rd_v rfl (v_move rfl) ?_
    refine rd_v rfl (v_indexAddr (f) sl22 rfl rfl (by omega) (kept_get hk)) ?_
    refine rd_v rfl (v_loadI ty26 rfl) ?_
    refine rd_v rfl (v_loadI ty26 rfl) ?_
    refine rd_v rfl (v_neA eq26 rfl rfl) ?_
    refine rd_nil ?_
    refine fin_nxt ?_
    refine w_cond_f rfl (by simp) ?_
    refine w_skip ?_
    refine fin_block ?_
    refine fin_nxt ?_
    refine w_region ?_
    refine op_cons rfl (OpV.t (v_move rfl) ?_)
    refine op_cons rfl (OpV.t (v_add rfl rfl (in_mk (by omega) (by omega))) ?_)
    refine op_cons rfl (OpV.t (v_assign rfl) ?_)
    refine rl_nil ?_
    refine fin_loopOn (k + 1) ?_ ?_ 15 rfl rfl (mod_cons (j := 6) rfl (fun _ _ _ => trivial) (mod_eq (j := 8) rfl (by first | rfl | (simp; done) | (simp; omega)) mod_nil)) .nil
    · omega
    · omega
  · have h4 := of_decide_eq_false h4b
    refine w_exit ?_
    refine exi_nxt ?_
    refine exi_loop ?_
    refine exi_block ?_
    refine fin_nxt ?_
    refine w_seq ?_
    refine w_region ?_
    refine op_cons rfl (OpV.t (v_assign rfl) ?_)
    refine rl_nil ?_
    refine fin_nxt ?_
    refine w_ret ?_
    refine ret_post (.tmp rfl .nil) .nil ?_
    exact pure1 rfl

theorem tagswrap_spec (l : List Tag) (number mode : Int) : Ctr Try.prog 3 [isv l, isv number, isv mode] [] (pureP true) := by
  refine spec_intro Try.func3 rfl (by decide +kernel) (by rfl) fun w0 S0 => ?_
  refine w_know (i := 0) rfl know_len' (fun hl0 => ?_)
  refine w_know (i := 1) rfl know_int' (fun hi1 => ?_)
  refine w_know (i := 2) rfl know_int' (fun hi2 => ?_)
  refine w_seq ?_
  refine w_region ?_
  refine op_cons rfl (OpV.t (v_assign rfl) ?_)
  refine rl_nil ?_
  refine fin_nxt ?_
  refine w_seq ?_
  refine w_seq ?_
  refine w_region ?_
  refine op_cons rfl (OpV.t (v_move rfl) ?_)
  refine op_cons rfl (OpV.t (v_len sl22 rfl) ?_)
  refine op_cons rfl (OpV.t (v_gtr rfl rfl) ?_)
  refine rl_nil ?_
  refine fin_nxt ?_
  refine w_cond rfl (fun h2b => ?_) (fun h2b => ?_)
  · have h2 := of_decide_eq_true h2b
    refine w_seq ?_
    refine w_region ?_
    refine op_cons rfl (t_call (awake_spec) .nil .nil (fun R H' hR => ?_))
    revert R H'; rintro _ _ ⟨rfl, rfl⟩
    refine op_cons rfl (OpV.t (v_assign rfl) ?_)
    refine rl_nil ?_
    refine fin_nxt ?_
    refine w_ret ?_
    refine ret_nxt ?_
    refine ret_post (.tmp rfl .nil) .nil ?_
    first | exact pure1 rfl | exact pure1 (decide_eq_true rfl)
  · have h2 := of_decide_eq_false h2b
    refine w_skip ?_
    refine fin_nxt ?_
    refine w_seq ?_
    refine w_region ?_
    refine op_cons rfl (OpV.t (v_move rfl) ?_)
    refine op_cons rfl (OpV.t (v_build (α := Tag) rfl bu26 ze26 (.same Tag.f0 fd26_0 rfl (.same Tag.f1 fd26_1 rfl .nil))) ?_)
    refine op_cons rfl (t_call (own_spec _ _ (by omega)) (.same rfl (.same rfl .nil)) .nil (fun R H' hR => ?_))
    revert R H'; rintro _ _ ⟨rfl, rfl⟩
    refine op_cons rfl (OpV.t (v_assign rfl) ?_)
    refine rl_nil ?_
    refine fin_nxt ?_
    refine w_seq ?_
    refine w_region ?_
    refine op_cons rfl (OpV.t (v_move rfl) ?_)
    refine op_cons rfl (OpV.t (v_move rfl) ?_)
    refine op_cons rfl (OpV.t (v_move rfl) ?_)
    refine op_cons rfl (t_call (wrap_spec _ _ _ (by first | (simp; done) | omega)) (.cons rfl spv_isv (.same rfl (.same rfl .nil))) .nil (fun R H' hR => ?_))
    revert R H'; rintro _ _ ⟨rfl, rfl⟩
    refine op_cons rfl (OpV.t (v_move rfl) ?_)
    refine op_cons rfl (OpV.t (v_extract rfl rfl) ?_)
    refine op_cons rfl (OpV.t (v_extract rfl rfl) ?_)
    refine op_cons rfl (OpV.t (v_assign rfl) ?_)
    refine op_cons rfl (OpV.t (v_assign rfl) ?_)
    refine rl_nil ?_
    refine fin_nxt ?_
    refine w_seq ?_
    refine w_region ?_
    refine op_cons rfl (OpV.t (v_move rfl) ?_)
    refine op_cons rfl (OpV.t (v_move rfl) ?_)
    refine op_cons rfl (OpV.t (v_move rfl) ?_)
    refine op_cons rfl (t_call (rwrap_spec _ _ _ (by first | (simp; done) | omega)) (.same rfl (.same rfl (.same rfl .nil))) .nil (fun R H' hR => ?_))
    revert R H'; rintro _ _ ⟨rfl, rfl⟩
    refine op_cons rfl (OpV.t (v_move rfl) ?_)
    refine op_cons rfl (OpV.t (v_extract rfl rfl) ?_)
    refine op_cons rfl (OpV.t (v_extract rfl rfl) ?_)
    refine op_cons rfl (OpV.t (v_assign rfl) ?_)
    refine op_cons rfl (OpV.t (v_assign rfl) ?_)
    refine rl_nil ?_
    refine fin_nxt ?_
    refine w_seq ?_
    refine w_region ?_
    refine op_cons rfl (t_call (awake_spec) .nil .nil (fun R H' hR => ?_))
    revert R H'; rintro _ _ ⟨rfl, rfl⟩
    refine op_cons rfl (OpV.t (v_move rfl) ?_)
    refine op_take rfl rfl (dj := 34) rfl rfl (OpV.t (v_move rfl) ?_)
    refine op_take rfl rfl (dj := 34) rfl rfl (OpV.t (v_move rfl) ?_)
    refine op_take rfl rfl (dj := 34) rfl rfl (t_call (plain_spec _ _) (.same rfl (.same rfl .nil)) .nil (fun R H' hR => ?_))
    revert R H'; rintro _ _ ⟨rfl, rfl⟩
    refine op_cons rfl (OpV.t (v_pick_t rfl rfl rfl) ?_)
    refine op_cons rfl (OpV.t (v_move rfl) ?_)
    refine op_take rfl rfl (dj := 39) rfl (decide_eq_true rfl) (OpV.t (v_move rfl) ?_)
    refine op_take rfl rfl (dj := 39) rfl (decide_eq_true rfl) (OpV.t (v_move rfl) ?_)
    refine op_take rfl rfl (dj := 39) rfl (decide_eq_true rfl) (OpV.t (v_eql rfl rfl) ?_)
    refine op_cons rfl (OpV.t (v_pick_t rfl (decide_eq_true rfl) rfl) ?_)
    refine op_cons rfl (OpV.t (v_move rfl) ?_)
    refine op_take rfl rfl (dj := 44) rfl (decide_eq_true rfl) (OpV.t (v_move rfl) ?_)
    refine op_take rfl rfl (dj := 44) rfl (decide_eq_true rfl) (OpV.t (v_move rfl) ?_)
    refine op_take rfl rfl (dj := 44) rfl (decide_eq_true rfl) (OpV.t (v_build (α := Tag) rfl bu26 ze26 (.same Tag.f0 fd26_0 rfl (.same Tag.f1 fd26_1 rfl .nil))) ?_)
    refine op_take rfl rfl (dj := 44) rfl (decide_eq_true rfl) (t_call (kept_spec _ _ (by omega)) (.same rfl (.same rfl (.same rfl .nil))) .nil (fun R H' hR => ?_))
    revert R H'; rintro _ _ ⟨rfl, rfl⟩
    refine op_cons rfl (OpV.t (v_pick_t rfl (decide_eq_true rfl) rfl) ?_)
    refine op_cons rfl (OpV.t (v_assign rfl) ?_)
    refine rl_nil ?_
    refine fin_nxt ?_
    refine w_ret ?_
    refine ret_post (.tmp rfl .nil) .nil ?_
    first | exact pure1 rfl | exact pure1 (decide_eq_true rfl)
end Go.Proofs.Ytlngkmmajaaloaa
