/- Walk of TagsLayers. -/
import Derived.Test.YtlngkmmajaaloaaW1
namespace Go.Proofs.Ytlngkmmajaaloaa
open Go.Sy
theorem layers_spec (ns : List Int) (ms : List Bool) : Ctr Try.prog 4 [isv ns, isv ms] [] (pureP true) := by
  refine spec_intro Try.func4 rfl (by decide +kernel) (by rfl) fun w0 S0 => ?_
  refine w_know (i := 0) rfl know_len' (fun hl0 => ?_)
  refine w_know (i := 1) rfl know_len' (fun hl1 => ?_)
  refine w_seq ?_
  refine w_region ?_
  refine op_cons rfl (OpV.t (v_assign rfl) ?_)
  refine rl_nil ?_
  refine fin_nxt ?_
  refine w_seq ?_
  refine w_seq ?_
  refine w_region ?_
  refine op_cons rfl (OpV.t (v_move rfl) ?_)
  refine op_cons rfl (OpV.t (v_len sl33 rfl) ?_)
  refine op_cons rfl (OpV.t (v_gtr rfl rfl) ?_)
  refine rl_nil ?_
  refine fin_nxt ?_
  refine w_cond rfl (fun h2b => ?_) (fun h2b => ?_)
  · have h2 := of_decide_eq_true h2b
    refine w_seq ?_
    refine w_region ?_
    refine op_cons rfl (t_call (awake_spec) .nil .nil (fun R H' hR => ?_))
    revert R H'; rintro _ _ ⟨rfl, rfl⟩
    refine op_cons rfl (OpV.t (v_assign rfl) ?_)
    refine rl_nil ?_
    refine fin_nxt ?_
    refine w_ret ?_
    refine ret_nxt ?_
    refine ret_post (.tmp rfl .nil) .nil ?_
    exact pure1 rfl
  · have h2 := of_decide_eq_false h2b
    refine w_skip ?_
    refine fin_nxt ?_
    refine w_seq ?_
    refine w_region ?_
    refine op_cons rfl (t_call (univ_spec _) (.same rfl .nil) .nil (fun R H' hR => ?_))
    revert R H'; rintro _ _ ⟨rfl, rfl⟩
    refine op_cons rfl (t_buildSlice el22 (.same rfl .nil) rfl rfl ?_)
    refine op_cons rfl (OpV.t (v_assign rfl) ?_)
    refine rl_nil ?_
    refine fin_nxt ?_
    refine w_seq ?_
    refine w_region ?_
    refine op_cons rfl (OpV.t (v_build (α := Tag) rfl bu26 ze26 (.same Tag.f1 fd26_1 rfl .nil)) ?_)
    refine op_cons rfl (t_buildSlice el22 (.same rfl .nil) rfl rfl ?_)
    refine op_cons rfl (OpV.t (v_assign rfl) ?_)
    refine rl_nil ?_
    refine fin_nxt ?_
    refine w_seq ?_
    refine w_seq ?_
    refine w_region ?_
    refine op_cons rfl (OpV.t (v_assign rfl) ?_)
    refine rl_nil ?_
    refine fin_nxt ?_
    refine w_block ?_
    refine w_loopOn (ι := Nat) (fun k => k ≤ ns.length ∧ ns.length ≤ 20) (fun k => [(4, anyv), (5, isv (lay ns ms k)), (6, isv (lay ns ms k)), (7, isv (k : Int))]) (fun _ => []) (fun k => ns.length - k) (0) ?_ .nil (mod_cons (j := 4) rfl (fun _ _ _ => trivial) (mod_cons (j := 5) rfl (appv_isvE (rfl)) (mod_cons (j := 6) rfl (appv_isvE (by first | exact (lay_t (by assumption)).symm | exact (lay_f (by assumption)).symm | exact (lay_o (by omega)).symm | rfl)) (mod_eq (j := 7) rfl (by first | rfl | omega) mod_nil)))) (fun k hI => ?_)
    · exact ⟨Nat.zero_le _, by omega⟩
    have hlb := layN_b ns k
    have hll := lay_len ns ms k
    refine w_seq ?_
    refine w_seq ?_
    refine w_region ?_
    refine op_cons rfl (OpV.t (v_move rfl) ?_)
    refine op_cons rfl (OpV.t (v_move rfl) ?_)
    refine op_cons rfl (OpV.t (v_len sl33 rfl) ?_)
    refine op_cons rfl (OpV.t (v_lss rfl rfl) ?_)
    refine rl_nil ?_
    refine fin_nxt ?_
    refine w_cond rfl (fun h4b => ?_) (fun h4b => ?_)
    · have h4 := of_decide_eq_true h4b
      refine w_skip ?_
      refine fin_nxt ?_
      refine w_seq ?_
      refine w_block ?_
      refine w_seq ?_
      refine w_region ?_
      refine op_cons rfl (OpV.t (v_move rfl) ?_)
      refine op_cons rfl (OpV.t (v_move rfl) ?_)
      refine op_cons rfl (OpV.t (v_indexAddr (ns[k]'(by omega)) sl33 rfl rfl (by omega) (List.getElem?_eq_getElem (by omega))) ?_)
      refine op_cons rfl (OpV.t (v_loadI ty3 rfl) ?_)
      refine op_cons rfl (OpV.t (v_toU Try.underlying3 Try.underlying36 rfl) ?_)
      refine op_cons rfl (OpV.t (v_remU rfl rfl (by decide)) ?_)
      refine op_cons rfl (OpV.t (v_toI Try.underlying36 Try.underlying3 rfl (by have := layU_lt (ns[k]'(by omega)); show ((layU (ns[k]'(by omega))).toNat : Int) ≤ _; omega)) ?_)
      refine rl_imp (slots_one (i := 32) rfl (fun _ _ h => lay_get ▸ h)) ?_
      refine op_cons rfl (OpV.t (v_assign rfl) ?_)
      refine rl_nil ?_
      refine fin_nxt ?_
      refine w_seq ?_
      refine w_region ?_
      refine op_cons rfl (OpV.t (v_assign rfl) ?_)
      refine rl_nil ?_
      refine fin_nxt ?_
      refine w_seq ?_
      refine w_seq ?_
      refine w_region ?_
      refine op_cons rfl (OpV.t (v_move rfl) ?_)
      refine op_cons rfl (OpV.t (v_move rfl) ?_)
      refine op_cons rfl (OpV.t (v_len sl34 rfl) ?_)
      refine op_cons rfl (OpV.t (v_lss rfl rfl) ?_)
      refine op_cons rfl (OpV.t (v_move rfl) ?_)
      refine rl_split (j := 37) rfl (fun h6b => ?_) (fun h6b => ?_)
      · have h6 := of_decide_eq_true h6b
        refine op_take rfl rfl (dj := 37) rfl h6b (OpV.t (v_move rfl) ?_)
        refine op_take rfl rfl (dj := 37) rfl h6b (OpV.t (v_move rfl) ?_)
        refine op_take rfl rfl (dj := 37) rfl h6b (OpV.t (v_indexAddr (ms[k]'(by omega)) sl34 rfl rfl (by omega) (List.getElem?_eq_getElem (by omega))) ?_)
        refine op_take rfl rfl (dj := 37) rfl h6b (OpV.t (v_loadI ty4 rfl) ?_)
        refine op_cons rfl (OpV.t (v_pick_t rfl h6b rfl) ?_)
        refine rl_nil ?_
        refine fin_nxt ?_
        refine w_cond rfl (fun h8b => ?_) (fun h8b => ?_)
        · have h8 := h8b
          refine w_seq ?_
          refine w_region ?_
          refine op_cons rfl (OpV.t (v_assign rfl) ?_)
          refine rl_nil ?_
          refine fin_nxt ?_
          refine w_region ?_
          refine op_cons rfl (OpV.t (v_move rfl) ?_)
          refine op_cons rfl (OpV.t (v_sliceFrom sl22 rfl rfl (by omega) (by omega)) ?_)
          refine op_cons rfl (OpV.t (v_assign rfl) ?_)
          refine rl_nil ?_
          refine fin_nxt ?_
          refine w_seq ?_
          refine w_region ?_
          refine op_cons rfl (OpV.t (v_move rfl) ?_)
          refine op_cons rfl (OpV.t (v_build (α := Tag) rfl bu26 ze26 (.same Tag.f0 fd26_0 rfl (.same Tag.f1 fd26_1 rfl .nil))) ?_)
          refine op_cons rfl (t_buildSlice el22 (.same rfl .nil) rfl rfl ?_)
          refine op_cons rfl (OpV.t (v_move rfl) ?_)
          refine op_cons rfl (t_append ap22_22 rfl rfl (.inl ⟨rfl, rfl⟩) .nil (by simp; omega) (fun t9 => ?_))
          refine op_cons rfl (OpV.t (v_assign rfl) ?_)
          refine rl_nil ?_
          refine fin_nxt ?_
          refine w_seq ?_
          refine w_region ?_
          refine op_cons rfl (OpV.t (v_move rfl) ?_)
          refine op_cons rfl (OpV.t (v_move rfl) ?_)
          refine op_cons rfl (OpV.t (v_move rfl) ?_)
          refine op_cons rfl (t_call (wrap_spec _ _ _ (by omega)) (.same rfl (.same rfl (.same rfl .nil))) .nil (fun R H' hR => ?_))
          revert R H'; rintro _ _ ⟨rfl, rfl⟩
          refine op_cons rfl (OpV.t (v_move rfl) ?_)
          refine op_cons rfl (OpV.t (v_extract rfl rfl) ?_)
          refine op_cons rfl (OpV.t (v_extract rfl rfl) ?_)
          refine op_cons rfl (OpV.t (v_assign rfl) ?_)
          refine op_cons rfl (OpV.t (v_assign rfl) ?_)
          refine rl_nil ?_
          refine fin_nxt ?_
          refine w_seq ?_
          refine w_seq ?_
          refine w_region ?_
          refine op_cons rfl (OpV.t (v_move rfl) ?_)
          refine op_cons rfl (OpV.t (v_neq rfl rfl) ?_)
          refine op_cons rfl (OpV.t (v_move rfl) ?_)
          refine op_take rfl rfl (dj := 59) rfl (by rw [lay_wrap]; rfl) (OpV.t (v_move rfl) ?_)
          refine op_take rfl rfl (dj := 59) rfl (by rw [lay_wrap]; rfl) (OpV.t (v_move rfl) ?_)
          refine op_take rfl rfl (dj := 59) rfl (by rw [lay_wrap]; rfl) (t_call (plain_spec _ _) (.same rfl (.cons rfl appv_isv .nil)) .nil (fun R H' hR => ?_))
          revert R H'; rintro _ _ ⟨rfl, rfl⟩
          refine op_take rfl rfl (dj := 59) rfl (by rw [lay_wrap]; rfl) (OpV.t (v_not rfl) ?_)
          refine op_cons rfl (OpV.t (v_pick_f rfl (by rw [lay_wrap]; rfl) rfl) ?_)
          refine rl_nil ?_
          refine fin_nxt ?_
          refine w_cond_f rfl (by rw [lay_wrap]; simp) ?_
          refine w_skip ?_
          refine fin_nxt ?_
          refine w_region ?_
          refine op_cons rfl (OpV.t (v_move rfl) ?_)
          refine op_cons rfl (OpV.t (v_assign rfl) ?_)
          refine rl_nil ?_
          refine fin_block ?_
          refine fin_nxt ?_
          refine w_region ?_
          refine op_cons rfl (OpV.t (v_move rfl) ?_)
          refine op_cons rfl (OpV.t (v_add rfl rfl (in_mk (by omega) (by omega))) ?_)
          refine op_cons rfl (OpV.t (v_assign rfl) ?_)
          refine rl_nil ?_
          refine fin_loopOn (k + 1) ?_ ?_ 60 rfl rfl (mod_cons (j := 4) rfl (fun _ _ _ => trivial) (mod_eq (j := 5) rfl (by rw [lay_wrap]; first | exact (lay_t (by assumption)).symm | exact (lay_f (by assumption)).symm | exact (lay_o (by omega)).symm) (mod_cons (j := 6) rfl (appv_isvE (by first | exact (lay_t (by assumption)).symm | exact (lay_f (by assumption)).symm | exact (lay_o (by omega)).symm | rfl)) (mod_eq (j := 7) rfl (by first | rfl | omega) mod_nil)))) .nil
          · omega
          · omega
        · have h8 := h8b
          refine w_skip ?_
          refine fin_nxt ?_
          refine w_seq ?_
          refine w_region ?_
          refine op_cons rfl (OpV.t (v_move rfl) ?_)
          refine op_cons rfl (OpV.t (v_build (α := Tag) rfl bu26 ze26 (.same Tag.f0 fd26_0 rfl (.same Tag.f1 fd26_1 rfl .nil))) ?_)
          refine op_cons rfl (t_buildSlice el22 (.same rfl .nil) rfl rfl ?_)
          refine op_cons rfl (OpV.t (v_move rfl) ?_)
          refine op_cons rfl (t_append ap22_22 rfl rfl (.inl ⟨rfl, rfl⟩) .nil (by simp; omega) (fun t12 => ?_))
          refine op_cons rfl (OpV.t (v_assign rfl) ?_)
          refine rl_nil ?_
          refine fin_nxt ?_
          refine w_seq ?_
          refine w_region ?_
          refine op_cons rfl (OpV.t (v_move rfl) ?_)
          refine op_cons rfl (OpV.t (v_move rfl) ?_)
          refine op_cons rfl (OpV.t (v_move rfl) ?_)
          refine op_cons rfl (t_call (wrap_spec _ _ _ (by omega)) (.same rfl (.same rfl (.same rfl .nil))) .nil (fun R H' hR => ?_))
          revert R H'; rintro _ _ ⟨rfl, rfl⟩
          refine op_cons rfl (OpV.t (v_move rfl) ?_)
          refine op_cons rfl (OpV.t (v_extract rfl rfl) ?_)
          refine op_cons rfl (OpV.t (v_extract rfl rfl) ?_)
          refine op_cons rfl (OpV.t (v_assign rfl) ?_)
          refine op_cons rfl (OpV.t (v_assign rfl) ?_)
          refine rl_nil ?_
          refine fin_nxt ?_
          refine w_seq ?_
          refine w_seq ?_
          refine w_region ?_
          refine op_cons rfl (OpV.t (v_move rfl) ?_)
          refine op_cons rfl (OpV.t (v_neq rfl rfl) ?_)
          refine op_cons rfl (OpV.t (v_move rfl) ?_)
          refine op_take rfl rfl (dj := 59) rfl (by rw [lay_wrap]; rfl) (OpV.t (v_move rfl) ?_)
          refine op_take rfl rfl (dj := 59) rfl (by rw [lay_wrap]; rfl) (OpV.t (v_move rfl) ?_)
          refine op_take rfl rfl (dj := 59) rfl (by rw [lay_wrap]; rfl) (t_call (plain_spec _ _) (.same rfl (.cons rfl appv_isv .nil)) .nil (fun R H' hR => ?_))
          revert R H'; rintro _ _ ⟨rfl, rfl⟩
          refine op_take rfl rfl (dj := 59) rfl (by rw [lay_wrap]; rfl) (OpV.t (v_not rfl) ?_)
          refine op_cons rfl (OpV.t (v_pick_f rfl (by rw [lay_wrap]; rfl) rfl) ?_)
          refine rl_nil ?_
          refine fin_nxt ?_
          refine w_cond_f rfl (by rw [lay_wrap]; simp) ?_
          refine w_skip ?_
          refine fin_nxt ?_
          refine w_region ?_
          refine op_cons rfl (OpV.t (v_move rfl) ?_)
          refine op_cons rfl (OpV.t (v_assign rfl) ?_)
          refine rl_nil ?_
          refine fin_block ?_
          refine fin_nxt ?_
          refine w_region ?_
          refine op_cons rfl (OpV.t (v_move rfl) ?_)
          refine op_cons rfl (OpV.t (v_add rfl rfl (in_mk (by omega) (by omega))) ?_)
          refine op_cons rfl (OpV.t (v_assign rfl) ?_)
          refine rl_nil ?_
          refine fin_loopOn (k + 1) ?_ ?_ 56 rfl rfl (mod_cons (j := 4) rfl (fun _ _ _ => trivial) (mod_eq (j := 5) rfl (by rw [lay_wrap]; first | exact (lay_t (by assumption)).symm | exact (lay_f (by assumption)).symm | exact (lay_o (by omega)).symm) (mod_cons (j := 6) rfl (appv_isvE (by first | exact (lay_t (by assumption)).symm | exact (lay_f (by assumption)).symm | exact (lay_o (by omega)).symm | rfl)) (mod_eq (j := 7) rfl (by first | rfl | omega) mod_nil)))) .nil
          · omega
          · omega
      · have h6 := of_decide_eq_false h6b
        refine op_pass rfl (dj := 37) rfl h6b ?_
        refine op_pass rfl (dj := 37) rfl h6b ?_
        refine op_pass rfl (dj := 37) rfl h6b ?_
        refine op_pass rfl (dj := 37) rfl h6b ?_
        refine op_cons rfl (OpV.t (v_pick_f rfl h6b rfl) ?_)
        refine rl_nil ?_
        refine fin_nxt ?_
        refine w_cond_f rfl rfl ?_
        refine w_skip ?_
        refine fin_nxt ?_
        refine w_seq ?_
        refine w_region ?_
        refine op_cons rfl (OpV.t (v_move rfl) ?_)
        refine op_cons rfl (OpV.t (v_build (α := Tag) rfl bu26 ze26 (.same Tag.f0 fd26_0 rfl (.same Tag.f1 fd26_1 rfl .nil))) ?_)
        refine op_cons rfl (t_buildSlice el22 (.same rfl .nil) rfl rfl ?_)
        refine op_cons rfl (OpV.t (v_move rfl) ?_)
        refine op_cons rfl (t_append ap22_22 rfl rfl (.inl ⟨rfl, rfl⟩) .nil (by simp; omega) (fun t15 => ?_))
        refine op_cons rfl (OpV.t (v_assign rfl) ?_)
        refine rl_nil ?_
        refine fin_nxt ?_
        refine w_seq ?_
        refine w_region ?_
        refine op_cons rfl (OpV.t (v_move rfl) ?_)
        refine op_cons rfl (OpV.t (v_move rfl) ?_)
        refine op_cons rfl (OpV.t (v_move rfl) ?_)
        refine op_cons rfl (t_call (wrap_spec _ _ _ (by omega)) (.same rfl (.same rfl (.same rfl .nil))) .nil (fun R H' hR => ?_))
        revert R H'; rintro _ _ ⟨rfl, rfl⟩
        refine op_cons rfl (OpV.t (v_move rfl) ?_)
        refine op_cons rfl (OpV.t (v_extract rfl rfl) ?_)
        refine op_cons rfl (OpV.t (v_extract rfl rfl) ?_)
        refine op_cons rfl (OpV.t (v_assign rfl) ?_)
        refine op_cons rfl (OpV.t (v_assign rfl) ?_)
        refine rl_nil ?_
        refine fin_nxt ?_
        refine w_seq ?_
        refine w_seq ?_
        refine w_region ?_
        refine op_cons rfl (OpV.t (v_move rfl) ?_)
        refine op_cons rfl (OpV.t (v_neq rfl rfl) ?_)
        refine op_cons rfl (OpV.t (v_move rfl) ?_)
        refine op_take rfl rfl (dj := 59) rfl (by rw [lay_wrap]; rfl) (OpV.t (v_move rfl) ?_)
        refine op_take rfl rfl (dj := 59) rfl (by rw [lay_wrap]; rfl) (OpV.t (v_move rfl) ?_)
        refine op_take rfl rfl (dj := 59) rfl (by rw [lay_wrap]; rfl) (t_call (plain_spec _ _) (.same rfl (.cons rfl appv_isv .nil)) .nil (fun R H' hR => ?_))
        revert R H'; rintro _ _ ⟨rfl, rfl⟩
        refine op_take rfl rfl (dj := 59) rfl (by rw [lay_wrap]; rfl) (OpV.t (v_not rfl) ?_)
        refine op_cons rfl (OpV.t (v_pick_f rfl (by rw [lay_wrap]; rfl) rfl) ?_)
        refine rl_nil ?_
        refine fin_nxt ?_
        refine w_cond_f rfl (by rw [lay_wrap]; simp) ?_
        refine w_skip ?_
        refine fin_nxt ?_
        refine w_region ?_
        refine op_cons rfl (OpV.t (v_move rfl) ?_)
        refine op_cons rfl (OpV.t (v_assign rfl) ?_)
        refine rl_nil ?_
        refine fin_block ?_
        refine fin_nxt ?_
        refine w_region ?_
        refine op_cons rfl (OpV.t (v_move rfl) ?_)
        refine op_cons rfl (OpV.t (v_add rfl rfl (in_mk (by omega) (by omega))) ?_)
        refine op_cons rfl (OpV.t (v_assign rfl) ?_)
        refine rl_nil ?_
        refine fin_loopOn (k + 1) ?_ ?_ 56 rfl rfl (mod_cons (j := 4) rfl (fun _ _ _ => trivial) (mod_eq (j := 5) rfl (by rw [lay_wrap]; first | exact (lay_t (by assumption)).symm | exact (lay_f (by assumption)).symm | exact (lay_o (by omega)).symm) (mod_cons (j := 6) rfl (appv_isvE (by first | exact (lay_t (by assumption)).symm | exact (lay_f (by assumption)).symm | exact (lay_o (by omega)).symm | rfl)) (mod_eq (j := 7) rfl (by first | rfl | omega) mod_nil)))) .nil
        · omega
        · omega
    · have h4 := of_decide_eq_false h4b
      refine w_exit ?_
      refine exi_nxt ?_
      refine exi_loop ?_
      refine exi_block ?_
      refine fin_nxt ?_
      refine w_seq ?_
      refine w_region ?_
      refine op_cons rfl (t_call (awake_spec) .nil .nil (fun R H' hR => ?_))
      revert R H'; rintro _ _ ⟨rfl, rfl⟩
      refine op_cons rfl (OpV.t (v_assign rfl) ?_)
      refine rl_nil ?_
      refine fin_nxt ?_
      refine w_ret ?_
      refine ret_post (.tmp rfl .nil) .nil ?_
      exact pure1 rfl
end Go.Proofs.Ytlngkmmajaaloaa
