/- Walks, printed by mill.py. -/
import Derived.Test.YtdcdndflfhaejaaDoorW4
namespace Go.Proofs.YtdcdndflfhaejaaDoor
open Go.Sy
set_option maxRecDepth 4000
theorem slices_Index_Lint_int_w : ∀ {a_s : (List Int)} {a_v : Int} {r : Int}, slices_Index_Lint_int a_s a_v = some r → Ctr Tryd.prog 46 [isv (a_s), isv (a_v)] [] (fun R H => R = oneOf [isv (r)] ∧ H = []) := by
  intro a_s a_v r h
  unfold slices_Index_Lint_int at h
  refine spec_intro Tryd.func46 rfl (by decide +kernel) (by rfl) fun w0 S0 hT => ?_
  refine w_seq ?_
  refine w_region ?_
  refine op_cons rfl (OpV.t (v_assign rfl) ?_)
  refine rl_nil ?_
  refine fin_nxt ?_
  refine w_seq ?_
  refine w_seq ?_
  refine w_region ?_
  refine op_cons rfl (OpV.t (v_move rfl) ?_)
  refine op_cons rfl (OpV.t (v_ln (l := a_s) rfl (fun _ _ h => h) sl23) ?_)
  refine op_cons rfl (OpV.t (v_move rfl) ?_)
  refine rl_nil ?_
  refine fin_nxt ?_
  refine w_block ?_
  refine w_lp (ι := Int) (γ := Unit) (fun q1 g1 => [(8, isv (q1))]) (fun q1 g1 => []) h () (mod_cons (j := 8) rfl (fun _ _ h => h) mod_nil) .nil (fun L2 q1 g1 Q7 h hL2 eL2 rL2 => ?_)
  refine w_seq ?_
  refine w_region ?_
  refine op_cons rfl (OpV.t (v_lss rfl rfl) ?_)
  refine rl_nil ?_
  refine fin_nxt ?_
  refine w_seq ?_
  refine w_condM h rfl (fun _ h => ?_) (fun _ h => ?_)
  · skip
    refine w_skip ?_
    refine fin_nxt ?_
    refine w_seq ?_
    refine w_block ?_
    refine w_seq ?_
    refine w_region ?_
    refine op_cons rfl (OpV.t (v_move rfl) ?_)
    refine op_cons rfl (OpV.t (v_assign rfl) ?_)
    refine rl_nil ?_
    refine fin_nxt ?_
    refine w_seq ?_
    refine w_region ?_
    refine op_cons rfl (OpV.t (v_move rfl) ?_)
    refine op_cons rfl (OpV.t (v_move rfl) ?_)
    refine op_cons rfl (OpV.t (v_move rfl) ?_)
    refine cal_inv h fun y5 hy5 h => ?_
    refine op_cons rfl (OpV.t (v_ix (l := a_s) rfl (fun _ _ h => h) rfl sl23 hy5) ?_)
    refine op_cons rfl (OpV.t (v_loadI ty3 rfl) ?_)
    refine op_cons rfl (OpV.t (v_eql rfl rfl) ?_)
    refine rl_nil ?_
    refine fin_nxt ?_
    refine w_condM h rfl (fun _ h => ?_) (fun _ h => ?_)
    · skip
      refine w_seq ?_
      refine w_region ?_
      refine op_cons rfl (OpV.t (v_move rfl) ?_)
      refine op_cons rfl (OpV.t (v_assign rfl) ?_)
      refine rl_nil ?_
      refine fin_nxt ?_
      refine w_ret ?_
      refine ret_block ?_
      refine ret_nxt ?_
      refine rL2 _ ?_
      refine ret_block ?_
      refine ret_nxt ?_
      refine ret_post (.tmp rfl .nil) .nil ?_
      obtain rfl := Option.some.inj h
      exact ⟨rfl, rfl⟩
    · skip
      refine w_skip ?_
      refine fin_block ?_
      refine fin_nxt ?_
      refine w_region ?_
      refine ck_inv h fun q6 h => ?_
      refine op_cons rfl (OpV.t (v_add rfl rfl q6) ?_)
      refine op_cons rfl (OpV.t (v_move rfl) ?_)
      refine rl_nil ?_
      exact hL2 _ () h _ (join_imp 12 rfl rfl (mod_cons (j := 8) rfl (fun _ _ h => h) mod_nil) .nil)
  · skip
    refine w_exit ?_
    refine exi_nxt ?_
    refine eL2 _ _ ?_
    refine exi_block ?_
    refine fin_nxt ?_
    refine w_seq ?_
    refine w_region ?_
    refine op_cons rfl (OpV.t (v_assign rfl) ?_)
    refine rl_nil ?_
    refine fin_nxt ?_
    refine w_ret ?_
    refine ret_post (.tmp rfl .nil) .nil ?_
    obtain rfl := Option.some.inj h
    exact ⟨rfl, rfl⟩


theorem slices_Contains_Lint_int_w : ∀ {a_s : (List Int)} {a_v : Int} {r : Bool}, slices_Contains_Lint_int a_s a_v = some r → Ctr Tryd.prog 28 [isv (a_s), isv (a_v)] [] (fun R H => R = oneOf [isv (r)] ∧ H = []) := by
  intro a_s a_v r h
  unfold slices_Contains_Lint_int at h
  refine spec_intro Tryd.func28 rfl (by decide +kernel) (by rfl) fun w0 S0 hT => ?_
  refine w_seq ?_
  refine w_region ?_
  refine op_cons rfl (OpV.t (v_assign rfl) ?_)
  refine rl_nil ?_
  refine fin_nxt ?_
  refine w_seq ?_
  refine w_region ?_
  refine op_cons rfl (OpV.t (v_move rfl) ?_)
  refine op_cons rfl (OpV.t (v_move rfl) ?_)
  refine cal_inv h fun y1 hy1 h => ?_
  refine op_cons rfl (t_call (slices_Index_Lint_int_w hy1) hT (.same rfl (.same rfl .nil)) .nil (fun R H' hR => ?_))
  obtain ⟨rfl, rfl⟩ := hR
  refine op_cons rfl (OpV.t (v_geq rfl rfl) ?_)
  refine op_cons rfl (OpV.t (v_assign rfl) ?_)
  refine rl_nil ?_
  refine fin_nxt ?_
  refine w_ret ?_
  refine ret_post (.tmp rfl .nil) .nil ?_
  obtain rfl := Option.some.inj h
  exact ⟨rfl, rfl⟩


theorem refs_Order_c1_w : ∀ {a_k : Int} {a_a1 : (List Int)} {b_a_a1 : Nat} {t_a_a11 : Tok} {r : Bool × (List Int)}, refs_Order_c1 a_k a_a1 = some r → Ctr Tryd.prog 30 [isv (a_k), ptrv b_a_a1 (Fld.id (TList Int))] [boxE b_a_a1 ((TList.mk t_a_a11 a_a1) : (TList Int)), tokE t_a_a11] (fun R H => ∃ u1 : Tok, R = oneOf [isv (r.1)] ∧ H = [boxE b_a_a1 ((TList.mk u1 r.2)), tokE u1]) := by
  intro a_k a_a1 b_a_a1 t_a_a11 r h
  unfold refs_Order_c1 at h
  refine spec_intro Tryd.func30 rfl (by decide +kernel) (by rfl) fun w0 S0 hT => ?_
  refine w_seq ?_
  refine w_region ?_
  refine op_cons rfl (OpV.t (v_assign rfl) ?_)
  refine rl_nil ?_
  refine fin_nxt ?_
  refine w_seq ?_
  refine w_region ?_
  refine op_cons rfl (t_loadC (R := appv t_a_a11 (a_a1)) ty23 rfl .here isvT1 ?_)
  refine op_cons rfl (OpV.t (v_move rfl) ?_)
  refine cal_inv h fun y2 hy2 h => ?_
  refine op_cons rfl (t_call (slices_Contains_Lint_int_w hy2) hT (.cons rfl appv_isv (.same rfl .nil)) .nil (fun R H' hR => ?_))
  obtain ⟨rfl, rfl⟩ := hR
  refine op_cons rfl (OpV.t (v_not rfl) ?_)
  refine op_cons rfl (OpV.t (v_assign rfl) ?_)
  refine rl_nil ?_
  refine fin_nxt ?_
  refine w_ret ?_
  refine ret_post (.tmp rfl .nil) (.cons .here (.cons .here .nil)) ?_
  obtain rfl := Option.some.inj h
  exact ⟨t_a_a11, rfl, rfl⟩


theorem slices_IndexFunc_Lint_int_w : ∀ {a_s : (List Int)} {a_f_0 : (List Int)} {b_a_f_0 : Nat} {t_a_f_01 : Tok} {r : Int × (List Int)}, slices_IndexFunc_Lint_int a_s a_f_0 = some r → Ctr Tryd.prog 47 [isv (a_s), clov 30 [ptrv b_a_f_0 (Fld.id (TList Int))]] [boxE b_a_f_0 ((TList.mk t_a_f_01 a_f_0) : (TList Int)), tokE t_a_f_01] (fun R H => ∃ u1 : Tok, R = oneOf [isv (r.1)] ∧ H = [boxE b_a_f_0 ((TList.mk u1 r.2)), tokE u1]) := by
  intro a_s a_f_0 b_a_f_0 t_a_f_01 r h
  unfold slices_IndexFunc_Lint_int at h
  refine spec_intro Tryd.func47 rfl (by decide +kernel) (by rfl) fun w0 S0 hT => ?_
  refine w_seq ?_
  refine w_region ?_
  refine op_cons rfl (OpV.t (v_assign rfl) ?_)
  refine rl_nil ?_
  refine fin_nxt ?_
  refine w_seq ?_
  refine w_seq ?_
  refine w_region ?_
  refine op_cons rfl (OpV.t (v_move rfl) ?_)
  refine op_cons rfl (OpV.t (v_ln (l := a_s) rfl (fun _ _ h => h) sl23) ?_)
  refine op_cons rfl (OpV.t (v_move rfl) ?_)
  refine rl_nil ?_
  refine fin_nxt ?_
  refine w_block ?_
  refine w_lp (ι := Int × (List Int)) (γ := Tok) (fun q2 g2 => [(8, isv (q2.1))]) (fun q2 g2 => [boxE b_a_f_0 ((TList.mk g2 q2.2) : (TList Int)), tokE g2]) h (t_a_f_01) (mod_cons (j := 8) rfl (fun _ _ h => h) mod_nil) (.cons .here (.cons .here .nil)) (fun L3 q2 g2 Q12 h hL3 eL3 rL3 => ?_)
  refine w_seq ?_
  refine w_region ?_
  refine op_cons rfl (OpV.t (v_lss rfl rfl) ?_)
  refine rl_nil ?_
  refine fin_nxt ?_
  refine w_seq ?_
  refine w_condM h rfl (fun _ h => ?_) (fun _ h => ?_)
  · skip
    refine w_skip ?_
    refine fin_nxt ?_
    refine w_seq ?_
    refine w_block ?_
    refine w_seq ?_
    refine w_region ?_
    refine op_cons rfl (OpV.t (v_move rfl) ?_)
    refine op_cons rfl (OpV.t (v_assign rfl) ?_)
    refine rl_nil ?_
    refine fin_nxt ?_
    refine w_seq ?_
    refine w_region ?_
    refine op_cons rfl (OpV.t (v_move rfl) ?_)
    refine op_cons rfl (OpV.t (v_move rfl) ?_)
    refine op_cons rfl (OpV.t (v_move rfl) ?_)
    refine cal_inv h fun y8 hy8 h => ?_
    refine op_cons rfl (OpV.t (v_ix (l := a_s) rfl (fun _ _ h => h) rfl sl23 hy8) ?_)
    refine op_cons rfl (OpV.t (v_loadI ty3 rfl) ?_)
    refine cal_inv h fun y9 hy9 h => ?_
    refine op_cons rfl (t_callC rfl (.same rfl .nil) (refs_Order_c1_w hy9) hT (.cons .here (.cons .here .nil)) (fun R H' hR => ?_))
    obtain ⟨t10, rfl, rfl⟩ := hR
    refine rl_nil ?_
    refine fin_nxt ?_
    refine w_condM h rfl (fun _ h => ?_) (fun _ h => ?_)
    · skip
      refine w_seq ?_
      refine w_region ?_
      refine op_cons rfl (OpV.t (v_move rfl) ?_)
      refine op_cons rfl (OpV.t (v_assign rfl) ?_)
      refine rl_nil ?_
      refine fin_nxt ?_
      refine w_ret ?_
      refine ret_block ?_
      refine ret_nxt ?_
      refine rL3 _ ?_
      refine ret_block ?_
      refine ret_nxt ?_
      refine ret_post (.tmp rfl .nil) (.cons .here (.cons .here .nil)) ?_
      obtain rfl := Option.some.inj h
      exact ⟨t10, rfl, rfl⟩
    · skip
      refine w_skip ?_
      refine fin_block ?_
      refine fin_nxt ?_
      refine w_region ?_
      refine ck_inv h fun q11 h => ?_
      refine op_cons rfl (OpV.t (v_add rfl rfl q11) ?_)
      refine op_cons rfl (OpV.t (v_move rfl) ?_)
      refine rl_nil ?_
      exact hL3 _ (t10) h _ (join_imp 12 rfl rfl (mod_cons (j := 8) rfl (fun _ _ h => h) mod_nil) (.cons .here (.cons .here .nil)))
  · skip
    refine w_exit ?_
    refine exi_nxt ?_
    refine eL3 _ _ ?_
    refine exi_block ?_
    refine fin_nxt ?_
    refine w_seq ?_
    refine w_region ?_
    refine op_cons rfl (OpV.t (v_assign rfl) ?_)
    refine rl_nil ?_
    refine fin_nxt ?_
    refine w_ret ?_
    refine ret_post (.tmp rfl .nil) (.cons .here (.cons .here .nil)) ?_
    obtain rfl := Option.some.inj h
    exact ⟨g2, rfl, rfl⟩


theorem slices_ContainsFunc_Lint_int_w : ∀ {a_s : (List Int)} {a_f_0 : (List Int)} {b_a_f_0 : Nat} {t_a_f_01 : Tok} {r : Bool × (List Int)}, slices_ContainsFunc_Lint_int a_s a_f_0 = some r → Ctr Tryd.prog 29 [isv (a_s), clov 30 [ptrv b_a_f_0 (Fld.id (TList Int))]] [boxE b_a_f_0 ((TList.mk t_a_f_01 a_f_0) : (TList Int)), tokE t_a_f_01] (fun R H => ∃ u1 : Tok, R = oneOf [isv (r.1)] ∧ H = [boxE b_a_f_0 ((TList.mk u1 r.2)), tokE u1]) := by
  intro a_s a_f_0 b_a_f_0 t_a_f_01 r h
  unfold slices_ContainsFunc_Lint_int at h
  refine spec_intro Tryd.func29 rfl (by decide +kernel) (by rfl) fun w0 S0 hT => ?_
  refine w_seq ?_
  refine w_region ?_
  refine op_cons rfl (OpV.t (v_assign rfl) ?_)
  refine rl_nil ?_
  refine fin_nxt ?_
  refine w_seq ?_
  refine w_region ?_
  refine op_cons rfl (OpV.t (v_move rfl) ?_)
  refine op_cons rfl (OpV.t (v_move rfl) ?_)
  refine cal_inv h fun y2 hy2 h => ?_
  refine op_cons rfl (t_call (slices_IndexFunc_Lint_int_w hy2) hT (.same rfl (.same rfl .nil)) (.cons .here (.cons .here .nil)) (fun R H' hR => ?_))
  obtain ⟨t3, rfl, rfl⟩ := hR
  refine op_cons rfl (OpV.t (v_geq rfl rfl) ?_)
  refine op_cons rfl (OpV.t (v_assign rfl) ?_)
  refine rl_nil ?_
  refine fin_nxt ?_
  refine w_ret ?_
  refine ret_post (.tmp rfl .nil) (.cons .here (.cons .here .nil)) ?_
  obtain rfl := Option.some.inj h
  exact ⟨t3, rfl, rfl⟩


theorem refs_Order_w : ∀ {a_m : GMod} {r : (List Int) × Int × Int}, refs_Order a_m = some r → Ctr Tryd.prog 10 [isv (a_m)] [] (fun R H => R = oneOf [isv (r.1), isv (r.2.1), isv (r.2.2)] ∧ H = []) := by
  intro a_m r h
  unfold refs_Order at h
  refine spec_intro Tryd.func10 rfl (by decide +kernel) (by rfl) fun w0 S0 hT => ?_
  refine w_seq ?_
  refine w_region ?_
  refine op_cons rfl (t_boxIC (y := a_m) rfl (fun _ _ h => h) ?_)
  refine op_cons rfl (OpV.t (v_assign rfl) ?_)
  refine op_cons rfl (OpV.t (v_assign rfl) ?_)
  refine op_cons rfl (OpV.t (v_assign rfl) ?_)
  refine rl_nil ?_
  refine fin_nxt ?_
  refine w_seq ?_
  refine w_region ?_
  refine op_cons rfl (OpV.t (v_assign rfl) ?_)
  refine rl_nil ?_
  refine fin_nxt ?_
  refine w_seq ?_
  refine w_seq ?_
  refine w_region ?_
  refine op_cons rfl (OpV.t (v_fi rfl GMod.f2 fd26_2 rfl (z := a_m.names)) ?_)
  refine op_cons rfl (OpV.t (v_loadI ty22 rfl) ?_)
  refine op_cons rfl (OpV.t (v_ln (l := a_m.names) rfl (fun _ _ h => h) sl22) ?_)
  refine op_cons rfl (OpV.t (v_move rfl) ?_)
  refine rl_nil ?_
  refine fin_nxt ?_
  refine w_block ?_
  refine w_upd (upd_tok) ?_
  refine w_lp (ι := (List (List Int)) × Int) (γ := Tok) (fun q1 g1 => [(5, appv g1 (q1.1)), (14, isv (q1.2))]) (fun q1 g1 => [tokE g1]) h (none) (mod_cons (j := 5) rfl nilv_appv (mod_cons (j := 14) rfl (fun _ _ h => h) mod_nil)) (.cons .here .nil) (fun L2 q1 g1 Q128 h hL2 eL2 rL2 => ?_)
  refine w_seq ?_
  refine w_region ?_
  refine op_cons rfl (OpV.t (v_lss rfl rfl) ?_)
  refine rl_nil ?_
  refine fin_nxt ?_
  refine w_seq ?_
  refine w_condM h rfl (fun _ h => ?_) (fun _ h => ?_)
  · skip
    refine w_skip ?_
    refine fin_nxt ?_
    refine w_seq ?_
    refine w_block ?_
    refine w_seq ?_
    refine w_region ?_
    refine op_cons rfl (OpV.t (v_move rfl) ?_)
    refine op_cons rfl (OpV.t (v_assign rfl) ?_)
    refine rl_nil ?_
    refine fin_nxt ?_
    refine w_regionD (.v 0 (.v 1 (.v 2 (.v 3 (.t 4 (.t 5 (.t 6 (.t 7 (.v 8 .nil))))))))) moOrd (by kernel_rfl) ?_
    refine rd_v rfl (v_move rfl) ?_
    refine rd_v rfl (v_loadI ty26 rfl) ?_
    refine rd_v rfl (v_loadI ty26 rfl) ?_
    refine rd_v rfl (v_move rfl) ?_
    refine cal_inv h fun y65 hy65 h => ?_
    refine rd_t rfl rfl (t_call (refs_of_w hy65) hT (.same rfl (.same rfl .nil)) .nil (fun R H' hR => ?_))
    obtain ⟨rfl, rfl⟩ := hR
    refine cal_inv h fun y66 hy66 h => ?_
    refine rd_t rfl rfl (t_call (refs_Uses_w hy66) hT (.same rfl (.same rfl .nil)) .nil (fun R H' hR => ?_))
    obtain ⟨rfl, rfl⟩ := hR
    refine rd_t rfl rfl (t_buildSlice (l := ([y66] : (List (List Int)))) el57 (.cons rfl (fun _ _ h => h) .nil) rfl rfl ?_)
    refine asr_inv h fun q69 h => ?_
    refine rd_t rfl rfl (t_appC (l := q1.1) (m := ([y66] : (List (List Int)))) ap57_57 rfl (fun _ _ h => h) rfl appv_isv .here q69 fun t68 => ?_)
    refine rd_v rfl (v_assign rfl) ?_
    refine rd_nil ?_
    refine fin_block ?_
    refine fin_nxt ?_
    refine w_region ?_
    refine ck_inv h fun q70 h => ?_
    refine op_cons rfl (OpV.t (v_add rfl rfl q70) ?_)
    refine op_cons rfl (OpV.t (v_move rfl) ?_)
    refine rl_nil ?_
    exact hL2 _ (t68) h _ (join_imp 16 rfl rfl (mod_cons (j := 5) rfl (fun _ _ h => h) (mod_cons (j := 14) rfl (fun _ _ h => h) mod_nil)) (.cons .here .nil))
  · skip
    refine w_exit ?_
    refine exi_nxt ?_
    refine eL2 _ _ ?_
    refine exi_block ?_
    refine fin_nxt ?_
    refine w_seq ?_
    refine w_seq ?_
    refine w_region ?_
    refine op_cons rfl (OpV.t (v_loadI ty26 rfl) ?_)
    refine op_cons rfl (OpV.t (v_move rfl) ?_)
    refine cal_inv h fun y71 hy71 h => ?_
    refine op_cons rfl (t_call (refs_wrong_w hy71) hT (.same rfl (.cons rfl appv_isv .nil)) .nil (fun R H' hR => ?_))
    obtain ⟨rfl, rfl⟩ := hR
    refine op_cons rfl (OpV.t (v_move rfl) ?_)
    refine op_cons rfl (OpV.t (v_extract rfl rfl) ?_)
    refine op_cons rfl (OpV.t (v_extract rfl rfl) ?_)
    refine op_cons rfl (OpV.t (v_assign rfl) ?_)
    refine op_cons rfl (OpV.t (v_assign rfl) ?_)
    refine rl_nil ?_
    refine fin_nxt ?_
    refine w_seq ?_
    refine w_region ?_
    refine op_cons rfl (OpV.t (v_move rfl) ?_)
    refine op_cons rfl (OpV.t (v_neq rfl rfl) ?_)
    refine rl_nil ?_
    refine fin_nxt ?_
    refine w_condM h rfl (fun _ h => ?_) (fun _ h => ?_)
    · skip
      refine w_seq ?_
      refine w_region ?_
      refine op_cons rfl (OpV.t (v_move rfl) ?_)
      refine op_cons rfl (OpV.t (v_move rfl) ?_)
      refine op_cons rfl (OpV.t (v_assign rfl) ?_)
      refine op_cons rfl (OpV.t (v_assign rfl) ?_)
      refine op_cons rfl (OpV.t (v_assign rfl) ?_)
      refine rl_nil ?_
      refine fin_nxt ?_
      refine w_ret ?_
      refine ret_nxt ?_
      refine ret_post (.as rfl (nilv_isv (α := Int)) (.tmp rfl (.tmp rfl .nil))) .nil ?_
      obtain rfl := Option.some.inj h
      exact ⟨rfl, rfl⟩
    · skip
      refine w_skip ?_
      refine fin_nxt ?_
      refine w_seq ?_
      refine w_region ?_
      refine op_cons rfl (t_alloc _ zt23_3 fun b72 => ?_)
      refine rl_upd (upd_tok) ?_
      refine rl_nil ?_
      refine fin_nxt ?_
      refine w_seq ?_
      refine w_block ?_
      refine w_lp (ι := (List Int)) (γ := Tok) (fun q74 g74 => []) (fun q74 g74 => [boxE b72 ((TList.mk g74 q74) : (TList Int)), tokE g74]) h (none) mod_nil (.cons (.there .here) (.cons .here .nil)) (fun L75 q74 g74 Q126 h hL75 eL75 rL75 => ?_)
      refine w_seq ?_
      refine w_seq ?_
      refine w_region ?_
      refine op_cons rfl (t_loadC (R := appv g74 (q74)) ty23 rfl .here isvT1 ?_)
      refine op_cons rfl (OpV.t (v_ln (l := q74) rfl appv_isv sl23) ?_)
      refine op_cons rfl (OpV.t (v_fi rfl GMod.f2 fd26_2 rfl (z := a_m.names)) ?_)
      refine op_cons rfl (OpV.t (v_loadI ty22 rfl) ?_)
      refine op_cons rfl (OpV.t (v_ln (l := a_m.names) rfl (fun _ _ h => h) sl22) ?_)
      refine op_cons rfl (OpV.t (v_lss rfl rfl) ?_)
      refine rl_nil ?_
      refine fin_nxt ?_
      refine w_condM h rfl (fun _ h => ?_) (fun _ h => ?_)
      · skip
        refine w_skip ?_
        refine fin_nxt ?_
        refine w_block ?_
        refine w_seq ?_
        refine w_region ?_
        refine op_cons rfl (OpV.t (v_fi rfl GMod.f2 fd26_2 rfl (z := a_m.names)) ?_)
        refine op_cons rfl (OpV.t (v_loadI ty22 rfl) ?_)
        refine op_cons rfl (OpV.t (v_ln (l := a_m.names) rfl (fun _ _ h => h) sl22) ?_)
        refine op_cons rfl (OpV.t (v_move rfl) ?_)
        refine rl_nil ?_
        refine fin_nxt ?_
        refine w_block ?_
        refine w_lp (ι := Int × (List Int)) (γ := Tok) (fun q101 g101 => [(45, isv (q101.1))]) (fun q101 g101 => [boxE b72 ((TList.mk g101 q101.2) : (TList Int)), tokE g101]) h (g74) (mod_cons (j := 45) rfl (fun _ _ h => h) mod_nil) (.cons .here (.cons .here .nil)) (fun L102 q101 g101 Q125 h hL102 eL102 rL102 => ?_)
        refine w_seq ?_
        refine w_region ?_
        refine op_cons rfl (OpV.t (v_lss rfl rfl) ?_)
        refine rl_nil ?_
        refine fin_nxt ?_
        refine w_seq ?_
        refine w_condM h rfl (fun _ h => ?_) (fun _ h => ?_)
        · skip
          refine w_skip ?_
          refine fin_nxt ?_
          refine w_seq ?_
          refine w_block ?_
          refine w_seq ?_
          refine w_region ?_
          refine op_cons rfl (OpV.t (v_move rfl) ?_)
          refine op_cons rfl (OpV.t (v_assign rfl) ?_)
          refine rl_nil ?_
          refine fin_nxt ?_
          refine w_seq ?_
          refine w_region ?_
          refine op_cons rfl (t_loadC (R := appv g101 (q101.2)) ty23 rfl .here isvT1 ?_)
          refine op_cons rfl (OpV.t (v_move rfl) ?_)
          refine cal_inv h fun y114 hy114 h => ?_
          refine op_cons rfl (t_call (slices_Contains_Lint_int_w hy114) hT (.cons rfl appv_isv (.same rfl .nil)) .nil (fun R H' hR => ?_))
          obtain ⟨rfl, rfl⟩ := hR
          refine op_cons rfl (OpV.t (v_not rfl) ?_)
          refine op_cons rfl (OpV.t (v_move rfl) ?_)
          refine rl_j (ι := Bool × (List Int)) (γ := Tok) (fun q115 g115 => [(60, isv (q115.1))]) (fun q115 g115 => [boxE b72 ((TList.mk g115 q115.2) : (TList Int)), tokE g115]) (.cons .here (.cons .here .nil)) h 8 rfl (fun q115 g115 h => ?_) (fun J116 h hJ116 => ?_)
          · skip
            refine rl_nil ?_
            refine fin_nxt ?_
            refine w_condM h rfl (fun _ h => ?_) (fun _ h => ?_)
            · skip
              refine w_seq ?_
              refine w_region ?_
              refine op_cons rfl (t_loadC (R := appv g115 (q115.2)) ty23 rfl .here isvT1 ?_)
              refine op_cons rfl (OpV.t (v_move rfl) ?_)
              refine op_cons rfl (t_buildSlice (l := ([q101.1] : (List Int))) el23 (.cons rfl (fun _ _ h => h) .nil) rfl rfl ?_)
              refine asr_inv h fun q123 h => ?_
              refine op_cons rfl (t_appC (l := q115.2) (m := ([q101.1] : (List Int))) ap23_23 rfl (fun _ _ h => h) rfl appv_isv (.there .here) q123 fun t122 => ?_)
              refine op_cons rfl (t_storeC (y' := ((TList.mk t122 (q115.2 ++ ([q101.1] : (List Int)))) : (TList Int))) ty23 rfl rfl isvT2 (.there .here) rfl ?_)
              refine rl_nil ?_
              refine fin_nxt ?_
              refine w_exit ?_
              refine exi_pass rfl ?_
              refine exi_nxt ?_
              refine eL102 _ _ ?_
              refine exi_block ?_
              refine fin_block ?_
              exact hL75 _ (t122) h _ (join_imp 24 rfl rfl mod_nil (.cons .here (.cons .here (.cons .here .nil))))
            · skip
              refine w_skip ?_
              refine fin_block ?_
              refine fin_nxt ?_
              refine w_region ?_
              refine ck_inv h fun q124 h => ?_
              refine op_cons rfl (OpV.t (v_add rfl rfl q124) ?_)
              refine op_cons rfl (OpV.t (v_move rfl) ?_)
              refine rl_nil ?_
              exact hL102 _ (g115) h _ (join_imp 12 rfl rfl (mod_cons (j := 45) rfl (fun _ _ h => h) mod_nil) (.cons .here (.cons .here (.cons .here .nil))))
          · skip
            refine rl_condM (j := 52) h rfl (fun g117 h => ?_) (fun g117 h => ?_)
            · skip
              refine op_take rfl rfl (dj := 52) rfl g117 (OpV.t (v_move rfl) ?_)
              refine op_take rfl rfl (dj := 52) rfl g117 (OpV.t (v_move rfl) ?_)
              refine cal_inv h fun y118 hy118 h => ?_
              refine op_take rfl rfl (dj := 52) rfl g117 (OpV.t (v_ix (l := q1.1) rfl appv_isv rfl sl57 hy118) ?_)
              refine op_take rfl rfl (dj := 52) rfl g117 (OpV.t (v_loadI ty23 rfl) ?_)
              refine op_take rfl rfl (dj := 52) rfl g117 (OpV.t (v_makeFunc (.same rfl .nil)) ?_)
              refine cal_inv h fun y119 hy119 h => ?_
              refine op_take rfl rfl (dj := 52) rfl g117 (t_call (slices_ContainsFunc_Lint_int_w hy119) hT (.same rfl (.same rfl .nil)) (.cons .here (.cons .here .nil)) (fun R H' hR => ?_))
              obtain ⟨t120, rfl, rfl⟩ := hR
              refine op_take rfl rfl (dj := 52) rfl g117 (OpV.t (v_not rfl) ?_)
              refine op_cons rfl (OpV.t (v_pick_t rfl g117 rfl) ?_)
              exact hJ116 _ (t120) h _ (join_imp 8 rfl rfl (mod_cons (j := 60) rfl (fun _ _ h => h) mod_nil) (.cons .here (.cons .here (.cons .here .nil))))
            · skip
              refine op_pass rfl (dj := 52) rfl g117 ?_
              refine op_pass rfl (dj := 52) rfl g117 ?_
              refine op_pass rfl (dj := 52) rfl g117 ?_
              refine op_pass rfl (dj := 52) rfl g117 ?_
              refine op_pass rfl (dj := 52) rfl g117 ?_
              refine op_pass rfl (dj := 52) rfl g117 ?_
              refine op_pass rfl (dj := 52) rfl g117 ?_
              refine op_cons rfl (OpV.t (v_pick_f rfl g117 rfl) ?_)
              exact hJ116 _ (g101) h _ (join_imp 8 rfl rfl (mod_cons (j := 60) rfl (fun _ _ h => h) mod_nil) (.cons .here (.cons .here (.cons .here .nil))))
        · skip
          refine w_exit ?_
          refine exi_nxt ?_
          refine eL102 _ _ ?_
          refine exi_block ?_
          refine fin_block ?_
          exact hL75 _ (g101) h _ (join_imp 12 rfl rfl mod_nil (.cons .here (.cons .here (.cons .here .nil))))
      · skip
        refine w_exit ?_
        refine exi_nxt ?_
        refine eL75 _ _ ?_
        refine exi_block ?_
        refine fin_nxt ?_
        refine w_seq ?_
        refine w_region ?_
        refine op_cons rfl (t_loadC (R := appv g74 (q74)) ty23 rfl .here isvT1 ?_)
        refine op_cons rfl (OpV.t (v_assign rfl) ?_)
        refine op_cons rfl (OpV.t (v_assign rfl) ?_)
        refine op_cons rfl (OpV.t (v_assign rfl) ?_)
        refine rl_nil ?_
        refine fin_nxt ?_
        refine w_ret ?_
        refine ret_post (.as rfl appv_isv (.tmp rfl (.tmp rfl .nil))) .nil ?_
        obtain rfl := Option.some.inj h
        exact ⟨rfl, rfl⟩


theorem law07_awake_w : ∀  {r : Bool}, law07_awake  = some r → Ctr Tryd.prog 9 [] [] (fun R H => R = oneOf [isv (r)] ∧ H = []) := by
  intro  r h
  unfold law07_awake at h
  refine spec_intro Tryd.func9 rfl (by decide +kernel) (by rfl) fun w0 S0 hT => ?_
  refine w_seq ?_
  refine w_region ?_
  refine op_cons rfl (OpV.t (v_assign rfl) ?_)
  refine rl_nil ?_
  refine fin_nxt ?_
  refine w_seq ?_
  refine w_region ?_
  refine cal_inv h fun y1 hy1 h => ?_
  refine op_cons rfl (t_call (r05_Parse_w hy1) hT (.same rfl .nil) .nil (fun R H' hR => ?_))
  obtain ⟨rfl, rfl⟩ := hR
  refine op_cons rfl (OpV.t (v_move rfl) ?_)
  refine op_cons rfl (OpV.t (v_extract rfl rfl) ?_)
  refine op_cons rfl (OpV.t (v_extract rfl rfl) ?_)
  refine op_cons rfl (OpV.t (v_extract rfl rfl) ?_)
  refine op_cons rfl (t_alloc _ ze26 fun b2 => ?_)
  refine op_cons rfl (t_storeC (y' := (y1.1 : GMod)) ty26 rfl rfl (fun _ _ h => h) .here rfl ?_)
  refine rl_upd (upd_imm 1 .here rfl) ?_
  refine op_cons rfl (OpV.t (v_assign rfl) ?_)
  refine op_cons rfl (OpV.t (v_assign rfl) ?_)
  refine rl_nil ?_
  refine fin_nxt ?_
  refine w_seq ?_
  refine w_region ?_
  refine op_cons rfl (OpV.t (v_loadI ty26 rfl) ?_)
  refine cal_inv h fun y3 hy3 h => ?_
  refine op_cons rfl (t_call (refs_Order_w hy3) hT (.same rfl .nil) .nil (fun R H' hR => ?_))
  obtain ⟨rfl, rfl⟩ := hR
  refine op_cons rfl (OpV.t (v_move rfl) ?_)
  refine op_cons rfl (OpV.t (v_extract rfl rfl) ?_)
  refine op_cons rfl (OpV.t (v_extract rfl rfl) ?_)
  refine op_cons rfl (OpV.t (v_extract rfl rfl) ?_)
  refine op_cons rfl (OpV.t (v_assign rfl) ?_)
  refine op_cons rfl (OpV.t (v_assign rfl) ?_)
  refine op_cons rfl (OpV.t (v_assign rfl) ?_)
  refine rl_nil ?_
  refine fin_nxt ?_
  refine w_seq ?_
  refine w_region ?_
  refine op_cons rfl (OpV.t (v_move rfl) ?_)
  refine op_cons rfl (OpV.t (v_eql rfl rfl) ?_)
  refine op_cons rfl (OpV.t (v_move rfl) ?_)
  refine rl_j (ι := Bool) (γ := Unit) (fun q4 g4 => [(24, isv (q4))]) (fun q4 g4 => []) .nil h 4 rfl (fun q4 g4 h => ?_) (fun J5 h hJ5 => ?_)
  · skip
    refine op_cons rfl (OpV.t (v_move rfl) ?_)
    refine rl_j (ι := Bool) (γ := Unit) (fun q7 g7 => [(30, isv (q7))]) (fun q7 g7 => []) .nil h 5 rfl (fun q7 g7 h => ?_) (fun J8 h hJ8 => ?_)
    · skip
      refine op_cons rfl (OpV.t (v_move rfl) ?_)
      refine rl_j (ι := Bool) (γ := Unit) (fun q11 g11 => [(35, isv (q11))]) (fun q11 g11 => []) .nil h 4 rfl (fun q11 g11 h => ?_) (fun J12 h hJ12 => ?_)
      · skip
        refine op_cons rfl (OpV.t (v_assign rfl) ?_)
        refine rl_nil ?_
        refine fin_nxt ?_
        refine w_ret ?_
        refine ret_post (.tmp rfl .nil) .nil ?_
        obtain rfl := Option.some.inj h
        exact ⟨rfl, rfl⟩
      · skip
        refine rl_condM (j := 31) h rfl (fun g13 h => ?_) (fun g13 h => ?_)
        · skip
          refine op_take rfl rfl (dj := 31) rfl g13 (OpV.t (v_loadI ty26 rfl) ?_)
          refine cal_inv h fun y14 hy14 h => ?_
          refine op_take rfl rfl (dj := 31) rfl g13 (t_call (refs_Find_w hy14) hT (.same rfl (.same rfl .nil)) .nil (fun R H' hR => ?_))
          obtain ⟨rfl, rfl⟩ := hR
          refine op_take rfl rfl (dj := 31) rfl g13 (OpV.t (v_eql rfl rfl) ?_)
          refine op_cons rfl (OpV.t (v_pick_t rfl g13 rfl) ?_)
          exact hJ12 _ () h _ (join_imp 4 rfl rfl (mod_cons (j := 35) rfl (fun _ _ h => h) mod_nil) .nil)
        · skip
          refine op_pass rfl (dj := 31) rfl g13 ?_
          refine op_pass rfl (dj := 31) rfl g13 ?_
          refine op_pass rfl (dj := 31) rfl g13 ?_
          refine op_cons rfl (OpV.t (v_pick_f rfl g13 rfl) ?_)
          exact hJ12 _ () h _ (join_imp 4 rfl rfl (mod_cons (j := 35) rfl (fun _ _ h => h) mod_nil) .nil)
    · skip
      refine rl_condM (j := 25) h rfl (fun g9 h => ?_) (fun g9 h => ?_)
      · skip
        refine op_take rfl rfl (dj := 25) rfl g9 (OpV.t (v_move rfl) ?_)
        refine cal_inv h fun y10 hy10 h => ?_
        refine op_take rfl rfl (dj := 25) rfl g9 (OpV.t (v_ix (l := y3.1) rfl (fun _ _ h => h) rfl sl23 hy10) ?_)
        refine op_take rfl rfl (dj := 25) rfl g9 (OpV.t (v_loadI ty3 rfl) ?_)
        refine op_take rfl rfl (dj := 25) rfl g9 (OpV.t (v_eql rfl rfl) ?_)
        refine op_cons rfl (OpV.t (v_pick_t rfl g9 rfl) ?_)
        exact hJ8 _ () h _ (join_imp 5 rfl rfl (mod_cons (j := 30) rfl (fun _ _ h => h) mod_nil) .nil)
      · skip
        refine op_pass rfl (dj := 25) rfl g9 ?_
        refine op_pass rfl (dj := 25) rfl g9 ?_
        refine op_pass rfl (dj := 25) rfl g9 ?_
        refine op_pass rfl (dj := 25) rfl g9 ?_
        refine op_cons rfl (OpV.t (v_pick_f rfl g9 rfl) ?_)
        exact hJ8 _ () h _ (join_imp 5 rfl rfl (mod_cons (j := 30) rfl (fun _ _ h => h) mod_nil) .nil)
  · skip
    refine rl_condM (j := 20) h rfl (fun g6 h => ?_) (fun g6 h => ?_)
    · skip
      refine op_take rfl rfl (dj := 20) rfl g6 (OpV.t (v_move rfl) ?_)
      refine op_take rfl rfl (dj := 20) rfl g6 (OpV.t (v_ln (l := y3.1) rfl (fun _ _ h => h) sl23) ?_)
      refine op_take rfl rfl (dj := 20) rfl g6 (OpV.t (v_eql rfl rfl) ?_)
      refine op_cons rfl (OpV.t (v_pick_t rfl g6 rfl) ?_)
      exact hJ5 _ () h _ (join_imp 4 rfl rfl (mod_cons (j := 24) rfl (fun _ _ h => h) mod_nil) .nil)
    · skip
      refine op_pass rfl (dj := 20) rfl g6 ?_
      refine op_pass rfl (dj := 20) rfl g6 ?_
      refine op_pass rfl (dj := 20) rfl g6 ?_
      refine op_cons rfl (OpV.t (v_pick_f rfl g6 rfl) ?_)
      exact hJ5 _ () h _ (join_imp 4 rfl rfl (mod_cons (j := 24) rfl (fun _ _ h => h) mod_nil) .nil)


theorem r07_Find_w : ∀ {a_m : GMod} {a_name : Str} {r : Int}, r07_Find a_m a_name = some r → Ctr Tryd.prog 13 [isv (a_m), isv (a_name)] [] (fun R H => R = oneOf [isv (r)] ∧ H = []) := by
  intro a_m a_name r h
  unfold r07_Find at h
  refine spec_intro Tryd.func13 rfl (by decide +kernel) (by rfl) fun w0 S0 hT => ?_
  refine w_seq ?_
  refine w_region ?_
  refine op_cons rfl (t_boxIC (y := a_m) rfl (fun _ _ h => h) ?_)
  refine op_cons rfl (OpV.t (v_assign rfl) ?_)
  refine rl_nil ?_
  refine fin_nxt ?_
  refine w_seq ?_
  refine w_seq ?_
  refine w_region ?_
  refine op_cons rfl (OpV.t (v_assign rfl) ?_)
  refine rl_nil ?_
  refine fin_nxt ?_
  refine w_block ?_
  refine w_lp (ι := Int) (γ := Unit) (fun q1 g1 => [(5, isv (q1))]) (fun q1 g1 => []) h () (mod_cons (j := 5) rfl (fun _ _ h => h) mod_nil) .nil (fun L2 q1 g1 Q7 h hL2 eL2 rL2 => ?_)
  refine w_seq ?_
  refine w_seq ?_
  refine w_region ?_
  refine op_cons rfl (OpV.t (v_move rfl) ?_)
  refine op_cons rfl (OpV.t (v_fi rfl GMod.f2 fd26_2 rfl (z := a_m.names)) ?_)
  refine op_cons rfl (OpV.t (v_loadI ty22 rfl) ?_)
  refine op_cons rfl (OpV.t (v_ln (l := a_m.names) rfl (fun _ _ h => h) sl22) ?_)
  refine op_cons rfl (OpV.t (v_lss rfl rfl) ?_)
  refine rl_nil ?_
  refine fin_nxt ?_
  refine w_condM h rfl (fun _ h => ?_) (fun _ h => ?_)
  · skip
    refine w_skip ?_
    refine fin_nxt ?_
    refine w_seq ?_
    refine w_block ?_
    refine w_seq ?_
    refine w_region ?_
    refine op_cons rfl (OpV.t (v_fi rfl GMod.f2 fd26_2 rfl (z := a_m.names)) ?_)
    refine op_cons rfl (OpV.t (v_loadI ty22 rfl) ?_)
    refine op_cons rfl (OpV.t (v_move rfl) ?_)
    refine cal_inv h fun y5 hy5 h => ?_
    refine op_cons rfl (OpV.t (v_ix (l := a_m.names) rfl (fun _ _ h => h) rfl sl22 hy5) ?_)
    refine op_cons rfl (OpV.t (v_loadI ty9 rfl) ?_)
    refine op_cons rfl (OpV.t (v_move rfl) ?_)
    refine op_cons rfl (OpV.t (v_eqA eq9 rfl rfl) ?_)
    refine rl_nil ?_
    refine fin_nxt ?_
    refine w_condM h rfl (fun _ h => ?_) (fun _ h => ?_)
    · skip
      refine w_seq ?_
      refine w_region ?_
      refine op_cons rfl (OpV.t (v_move rfl) ?_)
      refine op_cons rfl (OpV.t (v_assign rfl) ?_)
      refine rl_nil ?_
      refine fin_nxt ?_
      refine w_ret ?_
      refine ret_block ?_
      refine ret_nxt ?_
      refine rL2 _ ?_
      refine ret_block ?_
      refine ret_nxt ?_
      refine ret_post (.tmp rfl .nil) .nil ?_
      obtain rfl := Option.some.inj h
      exact ⟨rfl, rfl⟩
    · skip
      refine w_skip ?_
      refine fin_block ?_
      refine fin_nxt ?_
      refine w_region ?_
      refine op_cons rfl (OpV.t (v_move rfl) ?_)
      refine ck_inv h fun q6 h => ?_
      refine op_cons rfl (OpV.t (v_add rfl rfl q6) ?_)
      refine op_cons rfl (OpV.t (v_assign rfl) ?_)
      refine rl_nil ?_
      exact hL2 _ () h _ (join_imp 16 rfl rfl (mod_cons (j := 5) rfl (fun _ _ h => h) mod_nil) .nil)
  · skip
    refine w_exit ?_
    refine exi_nxt ?_
    refine eL2 _ _ ?_
    refine exi_block ?_
    refine fin_nxt ?_
    refine w_seq ?_
    refine w_region ?_
    refine op_cons rfl (OpV.t (v_assign rfl) ?_)
    refine rl_nil ?_
    refine fin_nxt ?_
    refine w_ret ?_
    refine ret_post (.tmp rfl .nil) .nil ?_
    obtain rfl := Option.some.inj h
    exact ⟨rfl, rfl⟩


theorem h_In_int_w : ∀ {a_l : (List Int)} {a_x : Int} {r : Bool}, h_In_int a_l a_x = some r → Ctr Tryd.prog 17 [isv (a_l), isv (a_x)] [] (fun R H => R = oneOf [isv (r)] ∧ H = []) := by
  intro a_l a_x r h
  unfold h_In_int at h
  refine spec_intro Tryd.func17 rfl (by decide +kernel) (by rfl) fun w0 S0 hT => ?_
  refine w_seq ?_
  refine w_region ?_
  refine op_cons rfl (OpV.t (v_assign rfl) ?_)
  refine rl_nil ?_
  refine fin_nxt ?_
  refine w_seq ?_
  refine w_seq ?_
  refine w_region ?_
  refine op_cons rfl (OpV.t (v_assign rfl) ?_)
  refine rl_nil ?_
  refine fin_nxt ?_
  refine w_block ?_
  refine w_lp (ι := Int) (γ := Unit) (fun q1 g1 => [(5, isv (q1))]) (fun q1 g1 => []) h () (mod_cons (j := 5) rfl (fun _ _ h => h) mod_nil) .nil (fun L2 q1 g1 Q7 h hL2 eL2 rL2 => ?_)
  refine w_seq ?_
  refine w_seq ?_
  refine w_region ?_
  refine op_cons rfl (OpV.t (v_move rfl) ?_)
  refine op_cons rfl (OpV.t (v_move rfl) ?_)
  refine op_cons rfl (OpV.t (v_ln (l := a_l) rfl (fun _ _ h => h) sl23) ?_)
  refine op_cons rfl (OpV.t (v_lss rfl rfl) ?_)
  refine rl_nil ?_
  refine fin_nxt ?_
  refine w_condM h rfl (fun _ h => ?_) (fun _ h => ?_)
  · skip
    refine w_skip ?_
    refine fin_nxt ?_
    refine w_seq ?_
    refine w_block ?_
    refine w_seq ?_
    refine w_region ?_
    refine op_cons rfl (OpV.t (v_move rfl) ?_)
    refine op_cons rfl (OpV.t (v_move rfl) ?_)
    refine cal_inv h fun y5 hy5 h => ?_
    refine op_cons rfl (OpV.t (v_ix (l := a_l) rfl (fun _ _ h => h) rfl sl23 hy5) ?_)
    refine op_cons rfl (OpV.t (v_loadI ty3 rfl) ?_)
    refine op_cons rfl (OpV.t (v_move rfl) ?_)
    refine op_cons rfl (OpV.t (v_eql rfl rfl) ?_)
    refine rl_nil ?_
    refine fin_nxt ?_
    refine w_condM h rfl (fun _ h => ?_) (fun _ h => ?_)
    · skip
      refine w_seq ?_
      refine w_region ?_
      refine op_cons rfl (OpV.t (v_assign rfl) ?_)
      refine rl_nil ?_
      refine fin_nxt ?_
      refine w_ret ?_
      refine ret_block ?_
      refine ret_nxt ?_
      refine rL2 _ ?_
      refine ret_block ?_
      refine ret_nxt ?_
      refine ret_post (.tmp rfl .nil) .nil ?_
      obtain rfl := Option.some.inj h
      exact ⟨rfl, rfl⟩
    · skip
      refine w_skip ?_
      refine fin_block ?_
      refine fin_nxt ?_
      refine w_region ?_
      refine op_cons rfl (OpV.t (v_move rfl) ?_)
      refine ck_inv h fun q6 h => ?_
      refine op_cons rfl (OpV.t (v_add rfl rfl q6) ?_)
      refine op_cons rfl (OpV.t (v_assign rfl) ?_)
      refine rl_nil ?_
      exact hL2 _ () h _ (join_imp 14 rfl rfl (mod_cons (j := 5) rfl (fun _ _ h => h) mod_nil) .nil)
  · skip
    refine w_exit ?_
    refine exi_nxt ?_
    refine eL2 _ _ ?_
    refine exi_block ?_
    refine fin_nxt ?_
    refine w_seq ?_
    refine w_region ?_
    refine op_cons rfl (OpV.t (v_assign rfl) ?_)
    refine rl_nil ?_
    refine fin_nxt ?_
    refine w_ret ?_
    refine ret_post (.tmp rfl .nil) .nil ?_
    obtain rfl := Option.some.inj h
    exact ⟨rfl, rfl⟩


def r07_uses_C (f' : GMod → Int → Int → (List Int) → Option ((List Int) × Bool)) : Prop :=
  ∀ {a_m : GMod} {a_node : Int} {a_depth : Int} {a_l : (List Int)} {t_a_l : Tok} {r : (List Int) × Bool}, f' a_m a_node a_depth a_l = some r → Ctr Tryd.prog 32 [isv (a_m), isv (a_node), isv (a_depth), appv t_a_l (a_l)] [tokE t_a_l] (fun R H => ∃ u1 : Tok, R = oneOf [appv u1 (r.1), isv (r.2)] ∧ H = [tokE u1])
theorem r07_uses_w0 {r07_uses' : GMod → Int → Int → (List Int) → Option ((List Int) × Bool)} (h_r07_uses : r07_uses_C r07_uses') : ∀ {a_m : GMod} {a_node : Int} {a_depth : Int} {a_l : (List Int)} {t_a_l : Tok} {r : (List Int) × Bool}, r07_uses_F r07_uses' a_m a_node a_depth a_l = some r → Ctr Tryd.prog 32 [isv (a_m), isv (a_node), isv (a_depth), appv t_a_l (a_l)] [tokE t_a_l] (fun R H => ∃ u1 : Tok, R = oneOf [appv u1 (r.1), isv (r.2)] ∧ H = [tokE u1]) := by
  intro a_m a_node a_depth a_l t_a_l r h
  unfold r07_uses_F at h
  refine spec_intro Tryd.func32 rfl (by decide +kernel) (by rfl) fun w0 S0 hT => ?_
  refine w_seq ?_
  refine w_region ?_
  refine op_cons rfl (t_boxIC (y := a_m) rfl (fun _ _ h => h) ?_)
  refine op_cons rfl (OpV.t (v_assign rfl) ?_)
  refine op_cons rfl (OpV.t (v_assign rfl) ?_)
  refine rl_nil ?_
  refine fin_nxt ?_
  refine w_seq ?_
  refine w_seq ?_
  refine w_region ?_
  refine op_cons rfl (OpV.t (v_move rfl) ?_)
  refine op_cons rfl (OpV.t (v_lss rfl rfl) ?_)
  refine op_cons rfl (OpV.t (v_move rfl) ?_)
  refine rl_j (ι := Bool) (γ := Unit) (fun q1 g1 => [(24, isv (q1))]) (fun q1 g1 => []) .nil h 6 rfl (fun q1 g1 h => ?_) (fun J2 h hJ2 => ?_)
  · skip
    refine op_cons rfl (OpV.t (v_move rfl) ?_)
    refine rl_j (ι := Bool) (γ := Unit) (fun q4 g4 => [(28, isv (q4))]) (fun q4 g4 => []) .nil h 3 rfl (fun q4 g4 h => ?_) (fun J5 h hJ5 => ?_)
    · skip
      refine rl_nil ?_
      refine fin_nxt ?_
      refine w_condM h rfl (fun _ h => ?_) (fun _ h => ?_)
      · skip
        refine w_seq ?_
        refine w_region ?_
        refine op_cons rfl (OpV.t (v_move rfl) ?_)
        refine op_cons rfl (OpV.t (v_assign rfl) ?_)
        refine op_cons rfl (OpV.t (v_assign rfl) ?_)
        refine rl_nil ?_
        refine fin_nxt ?_
        refine w_ret ?_
        refine ret_nxt ?_
        refine ret_post (.tmp rfl (.tmp rfl .nil)) (.cons .here .nil) ?_
        obtain rfl := Option.some.inj h
        exact ⟨t_a_l, rfl, rfl⟩
      · skip
        refine w_skip ?_
        refine fin_nxt ?_
        refine w_seq ?_
        refine w_region ?_
        refine op_cons rfl (OpV.t (v_fi rfl GMod.f4 fd26_4 rfl (z := a_m.nodes)) ?_)
        refine op_cons rfl (OpV.t (v_loadI ty24 rfl) ?_)
        refine op_cons rfl (OpV.t (v_move rfl) ?_)
        refine cal_inv h fun y7 hy7 h => ?_
        refine op_cons rfl (OpV.t (v_ix (l := a_m.nodes) rfl (fun _ _ h => h) rfl sl24 hy7) ?_)
        refine op_cons rfl (OpV.t (v_loadI ty83 rfl) ?_)
        refine op_cons rfl (t_alloc _ ze83 fun b8 => ?_)
        refine op_cons rfl (t_storeC (y' := (y7 : GNode)) ty83 rfl rfl (fun _ _ h => h) .here rfl ?_)
        refine rl_upd (upd_imm 10 .here rfl) ?_
        refine rl_nil ?_
        refine fin_nxt ?_
        refine w_seq ?_
        refine w_seq ?_
        refine w_region ?_
        refine op_cons rfl (OpV.t (v_fi rfl GNode.f0 fd83_0 rfl (z := y7.kind)) ?_)
        refine op_cons rfl (OpV.t (v_loadI ty3 rfl) ?_)
        refine op_cons rfl (OpV.t (v_eql rfl rfl) ?_)
        refine rl_nil ?_
        refine fin_nxt ?_
        refine w_condM h rfl (fun _ h => ?_) (fun _ h => ?_)
        · skip
          refine w_seq ?_
          refine w_region ?_
          refine op_cons rfl (OpV.t (v_loadI ty26 rfl) ?_)
          refine op_cons rfl (OpV.t (v_fi rfl GNode.f1 fd83_1 rfl (z := y7.name)) ?_)
          refine op_cons rfl (OpV.t (v_loadI ty9 rfl) ?_)
          refine cal_inv h fun y9 hy9 h => ?_
          refine op_cons rfl (t_call (r07_Find_w hy9) hT (.same rfl (.same rfl .nil)) .nil (fun R H' hR => ?_))
          obtain ⟨rfl, rfl⟩ := hR
          refine op_cons rfl (OpV.t (v_assign rfl) ?_)
          refine rl_nil ?_
          refine fin_nxt ?_
          refine w_seq ?_
          refine w_seq ?_
          refine w_region ?_
          refine op_cons rfl (OpV.t (v_move rfl) ?_)
          refine op_cons rfl (OpV.t (v_lss rfl rfl) ?_)
          refine rl_nil ?_
          refine fin_nxt ?_
          refine w_condM h rfl (fun _ h => ?_) (fun _ h => ?_)
          · skip
            refine w_seq ?_
            refine w_region ?_
            refine op_cons rfl (OpV.t (v_move rfl) ?_)
            refine op_cons rfl (OpV.t (v_assign rfl) ?_)
            refine op_cons rfl (OpV.t (v_assign rfl) ?_)
            refine rl_nil ?_
            refine fin_nxt ?_
            refine w_ret ?_
            refine ret_nxt ?_
            refine ret_nxt ?_
            refine ret_post (.tmp rfl (.tmp rfl .nil)) (.cons .here .nil) ?_
            obtain rfl := Option.some.inj h
            exact ⟨t_a_l, rfl, rfl⟩
          · skip
            refine w_skip ?_
            refine fin_nxt ?_
            refine w_seq ?_
            refine w_seq ?_
            refine w_region ?_
            refine op_cons rfl (OpV.t (v_move rfl) ?_)
            refine op_cons rfl (OpV.t (v_move rfl) ?_)
            refine cal_inv h fun y10 hy10 h => ?_
            refine op_cons rfl (t_call (h_In_int_w hy10) hT (.cons rfl appv_isv (.same rfl .nil)) .nil (fun R H' hR => ?_))
            obtain ⟨rfl, rfl⟩ := hR
            refine op_cons rfl (OpV.t (v_not rfl) ?_)
            refine rl_nil ?_
            refine fin_nxt ?_
            refine w_J (ι := (List Int)) (γ := Tok) (fun q11 g11 => [(3, appv g11 (q11))]) (fun q11 g11 => [tokE g11]) (.cons .here .nil) h (fun q11 g11 h => ?_) (fun J12 h hJ12 => ?_)
            · skip
              refine w_seq ?_
              refine w_region ?_
              refine op_cons rfl (OpV.t (v_move rfl) ?_)
              refine op_cons rfl (OpV.t (v_assign rfl) ?_)
              refine op_cons rfl (OpV.t (v_assign rfl) ?_)
              refine rl_nil ?_
              refine fin_nxt ?_
              refine w_ret ?_
              refine ret_nxt ?_
              refine ret_post (.tmp rfl (.tmp rfl .nil)) (.cons .here .nil) ?_
              obtain rfl := Option.some.inj h
              exact ⟨g11, rfl, rfl⟩
            · skip
              refine w_condM h rfl (fun _ h => ?_) (fun _ h => ?_)
              · skip
                refine w_region ?_
                refine op_cons rfl (OpV.t (v_move rfl) ?_)
                refine op_cons rfl (OpV.t (v_move rfl) ?_)
                refine op_cons rfl (t_buildSlice (l := ([y9] : (List Int))) el23 (.cons rfl (fun _ _ h => h) .nil) rfl rfl ?_)
                refine asr_inv h fun q15 h => ?_
                refine op_cons rfl (t_appC (l := a_l) (m := ([y9] : (List Int))) ap23_23 rfl (fun _ _ h => h) rfl appv_isv .here q15 fun t14 => ?_)
                refine op_cons rfl (OpV.t (v_assign rfl) ?_)
                refine rl_nil ?_
                exact hJ12 _ (t14) h _ (join_imp 5 rfl rfl (mod_cons (j := 3) rfl (fun _ _ h => h) mod_nil) (.cons .here .nil))
              · skip
                refine w_skip ?_
                exact hJ12 _ (t_a_l) h _ (join_imp 0 rfl rfl (mod_cons (j := 3) rfl (fun _ _ h => h) mod_nil) (.cons .here .nil))
        · skip
          refine w_skip ?_
          refine fin_nxt ?_
          refine w_seq ?_
          refine w_region ?_
          refine op_cons rfl (OpV.t (v_assign rfl) ?_)
          refine rl_nil ?_
          refine fin_nxt ?_
          refine w_seq ?_
          refine w_seq ?_
          refine w_region ?_
          refine op_cons rfl (OpV.t (v_assign rfl) ?_)
          refine rl_nil ?_
          refine fin_nxt ?_
          refine w_block ?_
          refine w_lp (ι := (List Int) × Bool × Int) (γ := Tok) (fun q16 g16 => [(3, appv g16 (q16.1)), (12, isv (q16.2.1)), (13, isv (q16.2.2))]) (fun q16 g16 => [tokE g16]) h (t_a_l) (mod_cons (j := 3) rfl (fun _ _ h => h) (mod_cons (j := 12) rfl (fun _ _ h => h) (mod_cons (j := 13) rfl (fun _ _ h => h) mod_nil))) (.cons .here .nil) (fun L17 q16 g16 Q44 h hL17 eL17 rL17 => ?_)
          refine w_seq ?_
          refine w_seq ?_
          refine w_region ?_
          refine op_cons rfl (OpV.t (v_move rfl) ?_)
          refine op_cons rfl (OpV.t (v_fi rfl GNode.f5 fd83_5 rfl (z := y7.fields)) ?_)
          refine op_cons rfl (OpV.t (v_loadI ty81 rfl) ?_)
          refine op_cons rfl (OpV.t (v_ln (l := y7.fields) rfl (fun _ _ h => h) sl81) ?_)
          refine op_cons rfl (OpV.t (v_lss rfl rfl) ?_)
          refine rl_nil ?_
          refine fin_nxt ?_
          refine w_condM h rfl (fun _ h => ?_) (fun _ h => ?_)
          · skip
            refine w_skip ?_
            refine fin_nxt ?_
            refine w_seq ?_
            refine w_block ?_
            refine w_seq ?_
            refine w_region ?_
            refine op_cons rfl (OpV.t (v_assign rfl) ?_)
            refine rl_nil ?_
            refine fin_nxt ?_
            refine w_seq ?_
            refine w_regionD (.v 0 (.v 1 (.v 2 (.v 3 (.v 4 (.v 5 (.v 6 (.v 7 (.v 8 (.v 9 (.t 10 (.v 11 (.v 12 (.v 13 (.v 14 (.v 15 .nil)))))))))))))))) moOrd (by kernel_rfl) ?_
            refine rd_v rfl (v_loadI ty26 rfl) ?_
            refine rd_v rfl (v_fi rfl GNode.f5 fd83_5 rfl (z := y7.fields)) ?_
            refine rd_v rfl (v_loadI ty81 rfl) ?_
            refine rd_v rfl (v_move rfl) ?_
            refine cal_inv h fun y28 hy28 h => ?_
            refine rd_v rfl (v_ix (l := y7.fields) rfl (fun _ _ h => h) rfl sl81 hy28) ?_
            refine rd_v rfl (v_fi rfl GFld.f1 fd97_1 rfl (z := y28.ty)) ?_
            refine rd_v rfl (v_loadI ty3 rfl) ?_
            refine rd_v rfl (v_move rfl) ?_
            refine ck_inv h fun q29 h => ?_
            refine rd_v rfl (v_add rfl rfl q29) ?_
            refine rd_v rfl (v_move rfl) ?_
            refine cal_inv h fun y30 hy30 h => ?_
            refine rd_t rfl rfl (t_call (h_r07_uses hy30) hT (.same rfl (.same rfl (.same rfl (.same rfl .nil)))) (.cons .here .nil) (fun R H' hR => ?_))
            obtain ⟨t31, rfl, rfl⟩ := hR
            refine rd_v rfl (v_move rfl) ?_
            refine rd_v rfl (v_extract rfl rfl) ?_
            refine rd_v rfl (v_extract rfl rfl) ?_
            refine rd_v rfl (v_assign rfl) ?_
            refine rd_v rfl (v_assign rfl) ?_
            refine rd_nil ?_
            refine fin_nxt ?_
            refine w_region ?_
            refine op_cons rfl (OpV.t (v_move rfl) ?_)
            refine op_cons rfl (OpV.t (v_move rfl) ?_)
            refine rl_j (ι := Bool) (γ := Unit) (fun q32 g32 => [(78, isv (q32))]) (fun q32 g32 => []) .nil h 2 rfl (fun q32 g32 h => ?_) (fun J33 h hJ33 => ?_)
            · skip
              refine op_cons rfl (OpV.t (v_assign rfl) ?_)
              refine rl_nil ?_
              refine fin_block ?_
              refine fin_nxt ?_
              refine w_region ?_
              refine op_cons rfl (OpV.t (v_move rfl) ?_)
              refine ck_inv h fun q35 h => ?_
              refine op_cons rfl (OpV.t (v_add rfl rfl q35) ?_)
              refine op_cons rfl (OpV.t (v_assign rfl) ?_)
              refine rl_nil ?_
              exact hL17 _ (t31) h _ (join_imp 32 rfl rfl (mod_cons (j := 3) rfl (fun _ _ h => h) (mod_cons (j := 12) rfl (fun _ _ h => h) (mod_cons (j := 13) rfl (fun _ _ h => h) mod_nil))) (.cons .here .nil))
            · skip
              refine rl_condM (j := 76) h rfl (fun g34 h => ?_) (fun g34 h => ?_)
              · skip
                refine op_pass rfl (dj := 76) rfl g34 ?_
                refine op_cons rfl (OpV.t (v_pick_t rfl g34 rfl) ?_)
                exact hJ33 _ () h _ (join_imp 2 rfl rfl (mod_cons (j := 78) rfl (fun _ _ h => h) mod_nil) (.cons .here .nil))
              · skip
                refine op_take rfl rfl (dj := 76) rfl g34 (OpV.t (v_move rfl) ?_)
                refine op_cons rfl (OpV.t (v_pick_f rfl g34 rfl) ?_)
                exact hJ33 _ () h _ (join_imp 2 rfl rfl (mod_cons (j := 78) rfl (fun _ _ h => h) mod_nil) (.cons .here .nil))
          · skip
            refine w_exit ?_
            refine exi_nxt ?_
            refine eL17 _ _ ?_
            refine exi_block ?_
            refine fin_nxt ?_
            refine w_seq ?_
            refine w_seq ?_
            refine w_region ?_
            refine op_cons rfl (OpV.t (v_fi rfl GNode.f0 fd83_0 rfl (z := y7.kind)) ?_)
            refine op_cons rfl (OpV.t (v_loadI ty3 rfl) ?_)
            refine op_cons rfl (OpV.t (v_eql rfl rfl) ?_)
            refine rl_nil ?_
            refine fin_nxt ?_
            refine w_J (ι := (List Int) × Bool) (γ := Tok) (fun q36 g36 => [(3, appv g36 (q36.1)), (12, isv (q36.2))]) (fun q36 g36 => [tokE g36]) (.cons .here .nil) h (fun q36 g36 h => ?_) (fun J37 h hJ37 => ?_)
            · skip
              refine w_seq ?_
              refine w_region ?_
              refine op_cons rfl (OpV.t (v_move rfl) ?_)
              refine op_cons rfl (OpV.t (v_move rfl) ?_)
              refine op_cons rfl (OpV.t (v_assign rfl) ?_)
              refine op_cons rfl (OpV.t (v_assign rfl) ?_)
              refine rl_nil ?_
              refine fin_nxt ?_
              refine w_ret ?_
              refine ret_post (.tmp rfl (.tmp rfl .nil)) (.cons .here .nil) ?_
              obtain rfl := Option.some.inj h
              exact ⟨g36, rfl, rfl⟩
            · skip
              refine w_condM h rfl (fun _ h => ?_) (fun _ h => ?_)
              · skip
                refine w_seq ?_
                refine w_region ?_
                refine op_cons rfl (OpV.t (v_assign rfl) ?_)
                refine rl_nil ?_
                refine fin_nxt ?_
                refine w_seq ?_
                refine w_region ?_
                refine op_cons rfl (OpV.t (v_loadI ty26 rfl) ?_)
                refine op_cons rfl (OpV.t (v_fi rfl GNode.f8 fd83_8 rfl (z := y7.of)) ?_)
                refine op_cons rfl (OpV.t (v_loadI ty3 rfl) ?_)
                refine op_cons rfl (OpV.t (v_move rfl) ?_)
                refine ck_inv h fun q38 h => ?_
                refine op_cons rfl (OpV.t (v_add rfl rfl q38) ?_)
                refine op_cons rfl (OpV.t (v_move rfl) ?_)
                refine cal_inv h fun y39 hy39 h => ?_
                refine op_cons rfl (t_call (h_r07_uses hy39) hT (.same rfl (.same rfl (.same rfl (.same rfl .nil)))) (.cons .here .nil) (fun R H' hR => ?_))
                obtain ⟨t40, rfl, rfl⟩ := hR
                refine op_cons rfl (OpV.t (v_move rfl) ?_)
                refine op_cons rfl (OpV.t (v_extract rfl rfl) ?_)
                refine op_cons rfl (OpV.t (v_extract rfl rfl) ?_)
                refine op_cons rfl (OpV.t (v_assign rfl) ?_)
                refine op_cons rfl (OpV.t (v_assign rfl) ?_)
                refine rl_nil ?_
                refine fin_nxt ?_
                refine w_region ?_
                refine op_cons rfl (OpV.t (v_move rfl) ?_)
                refine op_cons rfl (OpV.t (v_move rfl) ?_)
                refine rl_j (ι := Bool) (γ := Unit) (fun q41 g41 => [(95, isv (q41))]) (fun q41 g41 => []) .nil h 2 rfl (fun q41 g41 h => ?_) (fun J42 h hJ42 => ?_)
                · skip
                  refine op_cons rfl (OpV.t (v_assign rfl) ?_)
                  refine rl_nil ?_
                  exact hJ37 _ (t40) h _ (join_imp 17 rfl rfl (mod_cons (j := 3) rfl (fun _ _ h => h) (mod_cons (j := 12) rfl (fun _ _ h => h) mod_nil)) (.cons .here .nil))
                · skip
                  refine rl_condM (j := 93) h rfl (fun g43 h => ?_) (fun g43 h => ?_)
                  · skip
                    refine op_pass rfl (dj := 93) rfl g43 ?_
                    refine op_cons rfl (OpV.t (v_pick_t rfl g43 rfl) ?_)
                    exact hJ42 _ () h _ (join_imp 2 rfl rfl (mod_cons (j := 95) rfl (fun _ _ h => h) mod_nil) (.cons .here .nil))
                  · skip
                    refine op_take rfl rfl (dj := 93) rfl g43 (OpV.t (v_move rfl) ?_)
                    refine op_cons rfl (OpV.t (v_pick_f rfl g43 rfl) ?_)
                    exact hJ42 _ () h _ (join_imp 2 rfl rfl (mod_cons (j := 95) rfl (fun _ _ h => h) mod_nil) (.cons .here .nil))
              · skip
                refine w_skip ?_
                exact hJ37 _ (g16) h _ (join_imp 0 rfl rfl (mod_cons (j := 3) rfl (fun _ _ h => h) (mod_cons (j := 12) rfl (fun _ _ h => h) mod_nil)) (.cons .here .nil))
    · skip
      refine rl_condM (j := 25) h rfl (fun g6 h => ?_) (fun g6 h => ?_)
      · skip
        refine op_pass rfl (dj := 25) rfl g6 ?_
        refine op_pass rfl (dj := 25) rfl g6 ?_
        refine op_cons rfl (OpV.t (v_pick_t rfl g6 rfl) ?_)
        exact hJ5 _ () h _ (join_imp 3 rfl rfl (mod_cons (j := 28) rfl (fun _ _ h => h) mod_nil) (.cons .here .nil))
      · skip
        refine op_take rfl rfl (dj := 25) rfl g6 (OpV.t (v_move rfl) ?_)
        refine op_take rfl rfl (dj := 25) rfl g6 (OpV.t (v_gtr rfl rfl) ?_)
        refine op_cons rfl (OpV.t (v_pick_f rfl g6 rfl) ?_)
        exact hJ5 _ () h _ (join_imp 3 rfl rfl (mod_cons (j := 28) rfl (fun _ _ h => h) mod_nil) (.cons .here .nil))
  · skip
    refine rl_condM (j := 18) h rfl (fun g3 h => ?_) (fun g3 h => ?_)
    · skip
      refine op_pass rfl (dj := 18) rfl g3 ?_
      refine op_pass rfl (dj := 18) rfl g3 ?_
      refine op_pass rfl (dj := 18) rfl g3 ?_
      refine op_pass rfl (dj := 18) rfl g3 ?_
      refine op_pass rfl (dj := 18) rfl g3 ?_
      refine op_cons rfl (OpV.t (v_pick_t rfl g3 rfl) ?_)
      exact hJ2 _ () h _ (join_imp 6 rfl rfl (mod_cons (j := 24) rfl (fun _ _ h => h) mod_nil) (.cons .here .nil))
    · skip
      refine op_take rfl rfl (dj := 18) rfl g3 (OpV.t (v_move rfl) ?_)
      refine op_take rfl rfl (dj := 18) rfl g3 (OpV.t (v_fi rfl GMod.f4 fd26_4 rfl (z := a_m.nodes)) ?_)
      refine op_take rfl rfl (dj := 18) rfl g3 (OpV.t (v_loadI ty24 rfl) ?_)
      refine op_take rfl rfl (dj := 18) rfl g3 (OpV.t (v_ln (l := a_m.nodes) rfl (fun _ _ h => h) sl24) ?_)
      refine op_take rfl rfl (dj := 18) rfl g3 (OpV.t (v_geq rfl rfl) ?_)
      refine op_cons rfl (OpV.t (v_pick_f rfl g3 rfl) ?_)
      exact hJ2 _ () h _ (join_imp 6 rfl rfl (mod_cons (j := 24) rfl (fun _ _ h => h) mod_nil) (.cons .here .nil))

theorem r07_uses_grp_w : ∀ n, r07_uses_C (r07_uses n)
  | 0 => fun h => (by cases h)
  | n + 1 => r07_uses_w0 (r07_uses_grp_w n)
theorem r07_uses_w (n : Nat) : r07_uses_C (r07_uses n) := (r07_uses_grp_w n)

theorem r07_reach_w : ∀ {a_graph : (List (List Int))} {a_from_ : Int} {a_to : Int} {r : Bool}, r07_reach a_graph a_from_ a_to = some r → Ctr Tryd.prog 33 [isv (a_graph), isv (a_from_), isv (a_to)] [] (fun R H => R = oneOf [isv (r)] ∧ H = []) := by
  intro a_graph a_from_ a_to r h
  unfold r07_reach at h
  refine spec_intro Tryd.func33 rfl (by decide +kernel) (by rfl) fun w0 S0 hT => ?_
  refine w_seq ?_
  refine w_region ?_
  refine op_cons rfl (OpV.t (v_assign rfl) ?_)
  refine rl_nil ?_
  refine fin_nxt ?_
  refine w_seq ?_
  refine w_region ?_
  refine op_cons rfl (t_buildSlice (l := ([] : (List Int))) el23 .nil rfl rfl ?_)
  refine op_cons rfl (OpV.t (v_assign rfl) ?_)
  refine rl_nil ?_
  refine fin_nxt ?_
  refine w_seq ?_
  refine w_region ?_
  refine op_cons rfl (OpV.t (v_move rfl) ?_)
  refine op_cons rfl (OpV.t (v_move rfl) ?_)
  refine cal_inv h fun y2 hy2 h => ?_
  refine op_cons rfl (OpV.t (v_ix (l := a_graph) rfl (fun _ _ h => h) rfl sl57 hy2) ?_)
  refine op_cons rfl (OpV.t (v_loadI ty23 rfl) ?_)
  refine asr_inv h fun q4 h => ?_
  refine op_cons rfl (t_appN (m := y2) ap23_23 rfl rfl (fun _ _ h => h) q4 fun t3 => ?_)
  refine op_cons rfl (OpV.t (v_assign rfl) ?_)
  refine rl_nil ?_
  refine fin_nxt ?_
  refine w_seq ?_
  refine w_block ?_
  refine w_upd (upd_tok) ?_
  refine w_lp (ι := (List Int) × (List Int)) (γ := Tok × Tok) (fun q5 g5 => [(7, appv g5.1 (q5.1)), (8, appv g5.2 (q5.2))]) (fun q5 g5 => [tokE g5.1, tokE g5.2]) h (none, t3) (mod_cons (j := 7) rfl (fun _ _ h => h) (mod_cons (j := 8) rfl (fun _ _ h => h) mod_nil)) (.cons .here (.cons .here .nil)) (fun L6 q5 g5 Q27 h hL6 eL6 rL6 => ?_)
  refine w_seq ?_
  refine w_seq ?_
  refine w_region ?_
  refine op_cons rfl (OpV.t (v_move rfl) ?_)
  refine op_cons rfl (OpV.t (v_ln (l := q5.2) rfl appv_isv sl23) ?_)
  refine op_cons rfl (OpV.t (v_gtr rfl rfl) ?_)
  refine rl_nil ?_
  refine fin_nxt ?_
  refine w_condM h rfl (fun _ h => ?_) (fun _ h => ?_)
  · skip
    refine w_skip ?_
    refine fin_nxt ?_
    refine w_block ?_
    refine w_seq ?_
    refine w_region ?_
    refine op_cons rfl (OpV.t (v_move rfl) ?_)
    refine cal_inv h fun y17 hy17 h => ?_
    refine op_cons rfl (OpV.t (v_ix (l := q5.2) rfl appv_isv rfl sl23 hy17) ?_)
    refine op_cons rfl (OpV.t (v_loadI ty3 rfl) ?_)
    refine op_cons rfl (OpV.t (v_assign rfl) ?_)
    refine rl_nil ?_
    refine fin_nxt ?_
    refine w_seq ?_
    refine w_region ?_
    refine op_cons rfl (OpV.t (v_move rfl) ?_)
    refine asd_inv h fun q18 h => ?_
    refine op_cons rfl (t_slA rfl sl23 rfl q18.1 q18.2 (.there .here) fun t19 => ?_)
    refine op_cons rfl (OpV.t (v_assign rfl) ?_)
    refine rl_nil ?_
    refine fin_nxt ?_
    refine w_seq ?_
    refine w_seq ?_
    refine w_region ?_
    refine op_cons rfl (OpV.t (v_move rfl) ?_)
    refine op_cons rfl (OpV.t (v_move rfl) ?_)
    refine op_cons rfl (OpV.t (v_eql rfl rfl) ?_)
    refine rl_nil ?_
    refine fin_nxt ?_
    refine w_condM h rfl (fun _ h => ?_) (fun _ h => ?_)
    · skip
      refine w_seq ?_
      refine w_region ?_
      refine op_cons rfl (OpV.t (v_assign rfl) ?_)
      refine rl_nil ?_
      refine fin_nxt ?_
      refine w_ret ?_
      refine ret_nxt ?_
      refine ret_block ?_
      refine rL6 _ ?_
      refine ret_block ?_
      refine ret_nxt ?_
      refine ret_post (.tmp rfl .nil) .nil ?_
      obtain rfl := Option.some.inj h
      exact ⟨rfl, rfl⟩
    · skip
      refine w_skip ?_
      refine fin_nxt ?_
      refine w_seq ?_
      refine w_region ?_
      refine op_cons rfl (OpV.t (v_move rfl) ?_)
      refine op_cons rfl (OpV.t (v_move rfl) ?_)
      refine cal_inv h fun y20 hy20 h => ?_
      refine op_cons rfl (t_call (h_In_int_w hy20) hT (.cons rfl appv_isv (.same rfl .nil)) .nil (fun R H' hR => ?_))
      obtain ⟨rfl, rfl⟩ := hR
      refine op_cons rfl (OpV.t (v_not rfl) ?_)
      refine rl_nil ?_
      refine fin_nxt ?_
      refine w_condM h rfl (fun _ h => ?_) (fun _ h => ?_)
      · skip
        refine w_seq ?_
        refine w_region ?_
        refine op_cons rfl (OpV.t (v_move rfl) ?_)
        refine op_cons rfl (OpV.t (v_move rfl) ?_)
        refine op_cons rfl (t_buildSlice (l := ([y17] : (List Int))) el23 (.cons rfl (fun _ _ h => h) .nil) rfl rfl ?_)
        refine asr_inv h fun q23 h => ?_
        refine op_cons rfl (t_appC (l := q5.1) (m := ([y17] : (List Int))) ap23_23 rfl (fun _ _ h => h) rfl appv_isv (.there .here) q23 fun t22 => ?_)
        refine op_cons rfl (OpV.t (v_assign rfl) ?_)
        refine rl_nil ?_
        refine fin_nxt ?_
        refine w_region ?_
        refine op_cons rfl (OpV.t (v_move rfl) ?_)
        refine op_cons rfl (OpV.t (v_move rfl) ?_)
        refine op_cons rfl (OpV.t (v_move rfl) ?_)
        refine cal_inv h fun y24 hy24 h => ?_
        refine op_cons rfl (OpV.t (v_ix (l := a_graph) rfl (fun _ _ h => h) rfl sl57 hy24) ?_)
        refine op_cons rfl (OpV.t (v_loadI ty23 rfl) ?_)
        refine asr_inv h fun q26 h => ?_
        refine op_cons rfl (t_appC (l := (q5.2.drop ((1 : Int)).toNat)) (m := y24) ap23_23 rfl (fun _ _ h => h) rfl (fun _ _ h => h) (.there .here) q26 fun t25 => ?_)
        refine op_cons rfl (OpV.t (v_assign rfl) ?_)
        refine rl_nil ?_
        refine fin_block ?_
        exact hL6 _ (t22, t25) h _ (join_imp 31 rfl rfl (mod_cons (j := 7) rfl (fun _ _ h => h) (mod_cons (j := 8) rfl (fun _ _ h => h) mod_nil)) (.cons (.there .here) (.cons .here .nil)))
      · skip
        refine w_skip ?_
        refine fin_block ?_
        exact hL6 _ (g5.1, t19) h _ (join_imp 19 rfl rfl (mod_cons (j := 7) rfl (fun _ _ h => h) (mod_cons (j := 8) rfl (fun _ _ h => h) mod_nil)) (.cons (.there .here) (.cons .here .nil)))
  · skip
    refine w_exit ?_
    refine exi_nxt ?_
    refine eL6 _ _ ?_
    refine exi_block ?_
    refine fin_nxt ?_
    refine w_seq ?_
    refine w_region ?_
    refine op_cons rfl (OpV.t (v_assign rfl) ?_)
    refine rl_nil ?_
    refine fin_nxt ?_
    refine w_ret ?_
    refine ret_post (.tmp rfl .nil) .nil ?_
    obtain rfl := Option.some.inj h
    exact ⟨rfl, rfl⟩


theorem r07_Order_w : ∀ {a_m : GMod} {r : (List Int) × Int × Int}, r07_Order a_m = some r → Ctr Tryd.prog 11 [isv (a_m)] [] (fun R H => R = oneOf [isv (r.1), isv (r.2.1), isv (r.2.2)] ∧ H = []) := by
  intro a_m r h
  unfold r07_Order at h
  refine spec_intro Tryd.func11 rfl (by decide +kernel) (by rfl) fun w0 S0 hT => ?_
  refine w_seq ?_
  refine w_region ?_
  refine op_cons rfl (t_boxIC (y := a_m) rfl (fun _ _ h => h) ?_)
  refine op_cons rfl (OpV.t (v_assign rfl) ?_)
  refine op_cons rfl (OpV.t (v_assign rfl) ?_)
  refine op_cons rfl (OpV.t (v_assign rfl) ?_)
  refine rl_nil ?_
  refine fin_nxt ?_
  refine w_seq ?_
  refine w_region ?_
  refine op_cons rfl (OpV.t (v_assign rfl) ?_)
  refine rl_nil ?_
  refine fin_nxt ?_
  refine w_seq ?_
  refine w_region ?_
  refine op_cons rfl (OpV.t (v_assign rfl) ?_)
  refine rl_nil ?_
  refine fin_nxt ?_
  refine w_seq ?_
  refine w_seq ?_
  refine w_region ?_
  refine op_cons rfl (OpV.t (v_assign rfl) ?_)
  refine rl_nil ?_
  refine fin_nxt ?_
  refine w_block ?_
  refine w_lp (ι := Int) (γ := Unit) (fun q1 g1 => [(7, isv (q1))]) (fun q1 g1 => []) h () (mod_cons (j := 7) rfl (fun _ _ h => h) mod_nil) .nil (fun L2 q1 g1 Q1603 h hL2 eL2 rL2 => ?_)
  refine w_seq ?_
  refine w_seq ?_
  refine w_region ?_
  refine op_cons rfl (OpV.t (v_move rfl) ?_)
  refine op_cons rfl (OpV.t (v_fi rfl GMod.f2 fd26_2 rfl (z := a_m.names)) ?_)
  refine op_cons rfl (OpV.t (v_loadI ty22 rfl) ?_)
  refine op_cons rfl (OpV.t (v_ln (l := a_m.names) rfl (fun _ _ h => h) sl22) ?_)
  refine op_cons rfl (OpV.t (v_lss rfl rfl) ?_)
  refine rl_nil ?_
  refine fin_nxt ?_
  refine w_condM h rfl (fun _ h => ?_) (fun _ h => ?_)
  · skip
    refine w_skip ?_
    refine fin_nxt ?_
    refine w_seq ?_
    refine w_block ?_
    refine w_seq ?_
    refine w_regionD (.v 0 (.v 1 (.v 2 (.v 3 (.v 4 (.v 5 (.v 6 (.v 7 (.v 8 (.t 9 .nil)))))))))) moOrd (by kernel_rfl) ?_
    refine rd_v rfl (v_fi rfl GMod.f2 fd26_2 rfl (z := a_m.names)) ?_
    refine rd_v rfl (v_loadI ty22 rfl) ?_
    refine rd_v rfl (v_move rfl) ?_
    refine asd_inv h fun q803 h => ?_
    refine rd_v rfl (v_sl (l := a_m.names) rfl (fun _ _ h => h) sl22 (.inl ⟨rfl, rfl⟩) (.inr ⟨_, rfl, rfl⟩) q803.1 q803.2.1 q803.2.2) ?_
    refine rd_v rfl (v_fi rfl GMod.f2 fd26_2 rfl (z := a_m.names)) ?_
    refine rd_v rfl (v_loadI ty22 rfl) ?_
    refine rd_v rfl (v_move rfl) ?_
    refine cal_inv h fun y804 hy804 h => ?_
    refine rd_v rfl (v_ix (l := a_m.names) rfl (fun _ _ h => h) rfl sl22 hy804) ?_
    refine rd_v rfl (v_loadI ty9 rfl) ?_
    refine cal_inv h fun y805 hy805 h => ?_
    refine rd_t rfl rfl (t_call (h_In_string_w hy805) hT (.same rfl (.same rfl .nil)) .nil (fun R H' hR => ?_))
    obtain ⟨rfl, rfl⟩ := hR
    refine rd_nil ?_
    refine fin_nxt ?_
    refine w_condM h rfl (fun _ h => ?_) (fun _ h => ?_)
    · skip
      refine w_seq ?_
      refine w_region ?_
      refine op_cons rfl (OpV.t (v_move rfl) ?_)
      refine op_cons rfl (OpV.t (v_assign rfl) ?_)
      refine op_cons rfl (OpV.t (v_assign rfl) ?_)
      refine op_cons rfl (OpV.t (v_assign rfl) ?_)
      refine rl_nil ?_
      refine fin_nxt ?_
      refine w_ret ?_
      refine ret_block ?_
      refine ret_nxt ?_
      refine rL2 _ ?_
      refine ret_block ?_
      refine ret_nxt ?_
      refine ret_post (.as rfl (nilv_isv (α := Int)) (.tmp rfl (.tmp rfl .nil))) .nil ?_
      obtain rfl := Option.some.inj h
      exact ⟨rfl, rfl⟩
    · skip
      refine w_skip ?_
      refine fin_block ?_
      refine fin_nxt ?_
      refine w_region ?_
      refine op_cons rfl (OpV.t (v_move rfl) ?_)
      refine ck_inv h fun q806 h => ?_
      refine op_cons rfl (OpV.t (v_add rfl rfl q806) ?_)
      refine op_cons rfl (OpV.t (v_assign rfl) ?_)
      refine rl_nil ?_
      exact hL2 _ () h _ (join_imp 19 rfl rfl (mod_cons (j := 7) rfl (fun _ _ h => h) mod_nil) .nil)
  · skip
    refine w_exit ?_
    refine exi_nxt ?_
    refine eL2 _ _ ?_
    refine exi_block ?_
    refine fin_nxt ?_
    refine w_seq ?_
    refine w_seq ?_
    refine w_region ?_
    refine op_cons rfl (OpV.t (v_assign rfl) ?_)
    refine rl_nil ?_
    refine fin_nxt ?_
    refine w_block ?_
    refine w_upd (upd_tok) ?_
    refine w_lp (ι := (List (List Int)) × Int × Int) (γ := Tok) (fun q807 g807 => [(5, appv g807 (q807.1)), (6, isv (q807.2.1)), (8, isv (q807.2.2))]) (fun q807 g807 => [tokE g807]) h (none) (mod_cons (j := 5) rfl nilv_appv (mod_cons (j := 6) rfl (fun _ _ h => h) (mod_cons (j := 8) rfl (fun _ _ h => h) mod_nil))) (.cons .here .nil) (fun L808 q807 g807 Q1602 h hL808 eL808 rL808 => ?_)
    refine w_seq ?_
    refine w_seq ?_
    refine w_region ?_
    refine op_cons rfl (OpV.t (v_move rfl) ?_)
    refine op_cons rfl (OpV.t (v_fi rfl GMod.f2 fd26_2 rfl (z := a_m.names)) ?_)
    refine op_cons rfl (OpV.t (v_loadI ty22 rfl) ?_)
    refine op_cons rfl (OpV.t (v_ln (l := a_m.names) rfl (fun _ _ h => h) sl22) ?_)
    refine op_cons rfl (OpV.t (v_lss rfl rfl) ?_)
    refine rl_nil ?_
    refine fin_nxt ?_
    refine w_condM h rfl (fun _ h => ?_) (fun _ h => ?_)
    · skip
      refine w_skip ?_
      refine fin_nxt ?_
      refine w_seq ?_
      refine w_J (ι := (List (List Int)) × Int) (γ := Tok) (fun q1337 g1337 => [(5, appv g1337 (q1337.1)), (6, isv (q1337.2))]) (fun q1337 g1337 => [tokE g1337]) (.cons .here .nil) h (fun q1337 g1337 h => ?_) (fun J1338 h hJ1338 => ?_)
      · skip
        refine w_region ?_
        refine op_cons rfl (OpV.t (v_move rfl) ?_)
        refine ck_inv h fun q1349 h => ?_
        refine op_cons rfl (OpV.t (v_add rfl rfl q1349) ?_)
        refine op_cons rfl (OpV.t (v_assign rfl) ?_)
        refine rl_nil ?_
        exact hL808 _ (g1337) h _ (join_imp 13 rfl rfl (mod_cons (j := 5) rfl (fun _ _ h => h) (mod_cons (j := 6) rfl (fun _ _ h => h) (mod_cons (j := 8) rfl (fun _ _ h => h) mod_nil))) (.cons .here .nil))
      · skip
        refine w_block ?_
        refine w_seq ?_
        refine w_regionD (.v 0 (.v 1 (.v 2 (.v 3 (.v 4 (.v 5 (.t 6 (.v 7 (.v 8 (.v 9 (.v 10 (.v 11 .nil)))))))))))) moOrd (by kernel_rfl) ?_
        refine rd_v rfl (v_loadI ty26 rfl) ?_
        refine rd_v rfl (v_fi rfl GMod.f3 fd26_3 rfl (z := a_m.types)) ?_
        refine rd_v rfl (v_loadI ty23 rfl) ?_
        refine rd_v rfl (v_move rfl) ?_
        refine cal_inv h fun y1339 hy1339 h => ?_
        refine rd_v rfl (v_ix (l := a_m.types) rfl (fun _ _ h => h) rfl sl23 hy1339) ?_
        refine rd_v rfl (v_loadI ty3 rfl) ?_
        refine rd_upd (upd_tok) ?_
        refine cal_inv h fun y1341 hy1341 h => ?_
        refine rd_t rfl rfl (t_call (r07_uses_w fuel hy1341) hT (.same rfl (.same rfl (.same rfl (.cons rfl nilv_appv .nil)))) (.cons .here .nil) (fun R H' hR => ?_))
        obtain ⟨t1342, rfl, rfl⟩ := hR
        refine rd_v rfl (v_move rfl) ?_
        refine rd_v rfl (v_extract rfl rfl) ?_
        refine rd_v rfl (v_extract rfl rfl) ?_
        refine rd_v rfl (v_assign rfl) ?_
        refine rd_v rfl (v_assign rfl) ?_
        refine rd_nil ?_
        refine fin_nxt ?_
        refine w_seq ?_
        refine w_region ?_
        refine op_cons rfl (OpV.t (v_move rfl) ?_)
        refine op_cons rfl (OpV.t (v_move rfl) ?_)
        refine op_cons rfl (t_buildSlice (l := ([y1341.1] : (List (List Int)))) el57 (.cons rfl appv_isv .nil) rfl rfl ?_)
        refine asr_inv h fun q1345 h => ?_
        refine op_cons rfl (t_appC (l := q807.1) (m := ([y1341.1] : (List (List Int)))) ap57_57 rfl (fun _ _ h => h) rfl appv_isv (.there .here) q1345 fun t1344 => ?_)
        refine op_cons rfl (OpV.t (v_assign rfl) ?_)
        refine rl_nil ?_
        refine fin_nxt ?_
        refine w_seq ?_
        refine w_region ?_
        refine op_cons rfl (OpV.t (v_move rfl) ?_)
        refine op_cons rfl (OpV.t (v_move rfl) ?_)
        refine rl_j (ι := Bool) (γ := Unit) (fun q1346 g1346 => [(59, isv (q1346))]) (fun q1346 g1346 => []) .nil h 3 rfl (fun q1346 g1346 h => ?_) (fun J1347 h hJ1347 => ?_)
        · skip
          refine rl_nil ?_
          refine fin_nxt ?_
          refine w_condM h rfl (fun _ h => ?_) (fun _ h => ?_)
          · skip
            refine w_region ?_
            refine op_cons rfl (OpV.t (v_move rfl) ?_)
            refine op_cons rfl (OpV.t (v_assign rfl) ?_)
            refine rl_nil ?_
            refine fin_block ?_
            exact hJ1338 _ (t1344) h _ (join_imp 22 rfl rfl (mod_cons (j := 5) rfl (fun _ _ h => h) (mod_cons (j := 6) rfl (fun _ _ h => h) mod_nil)) (.cons .here .nil))
          · skip
            refine w_skip ?_
            refine fin_block ?_
            exact hJ1338 _ (t1344) h _ (join_imp 20 rfl rfl (mod_cons (j := 5) rfl (fun _ _ h => h) (mod_cons (j := 6) rfl (fun _ _ h => h) mod_nil)) (.cons .here .nil))
        · skip
          refine rl_condM (j := 56) h rfl (fun g1348 h => ?_) (fun g1348 h => ?_)
          · skip
            refine op_take rfl rfl (dj := 56) rfl g1348 (OpV.t (v_move rfl) ?_)
            refine op_take rfl rfl (dj := 56) rfl g1348 (OpV.t (v_lss rfl rfl) ?_)
            refine op_cons rfl (OpV.t (v_pick_t rfl g1348 rfl) ?_)
            exact hJ1347 _ () h _ (join_imp 3 rfl rfl (mod_cons (j := 59) rfl (fun _ _ h => h) mod_nil) (.cons .here (.cons .here .nil)))
          · skip
            refine op_pass rfl (dj := 56) rfl g1348 ?_
            refine op_pass rfl (dj := 56) rfl g1348 ?_
            refine op_cons rfl (OpV.t (v_pick_f rfl g1348 rfl) ?_)
            exact hJ1347 _ () h _ (join_imp 3 rfl rfl (mod_cons (j := 59) rfl (fun _ _ h => h) mod_nil) (.cons .here (.cons .here .nil)))
    · skip
      refine w_exit ?_
      refine exi_nxt ?_
      refine eL808 _ _ ?_
      refine exi_block ?_
      refine fin_nxt ?_
      refine w_seq ?_
      refine w_seq ?_
      refine w_region ?_
      refine op_cons rfl (OpV.t (v_move rfl) ?_)
      refine op_cons rfl (OpV.t (v_geq rfl rfl) ?_)
      refine rl_nil ?_
      refine fin_nxt ?_
      refine w_condM h rfl (fun _ h => ?_) (fun _ h => ?_)
      · skip
        refine w_seq ?_
        refine w_region ?_
        refine op_cons rfl (OpV.t (v_move rfl) ?_)
        refine op_cons rfl (OpV.t (v_assign rfl) ?_)
        refine op_cons rfl (OpV.t (v_assign rfl) ?_)
        refine op_cons rfl (OpV.t (v_assign rfl) ?_)
        refine rl_nil ?_
        refine fin_nxt ?_
        refine w_ret ?_
        refine ret_nxt ?_
        refine ret_post (.as rfl (nilv_isv (α := Int)) (.tmp rfl (.tmp rfl .nil))) .nil ?_
        obtain rfl := Option.some.inj h
        exact ⟨rfl, rfl⟩
      · skip
        refine w_skip ?_
        refine fin_nxt ?_
        refine w_seq ?_
        refine w_seq ?_
        refine w_region ?_
        refine op_cons rfl (OpV.t (v_assign rfl) ?_)
        refine rl_nil ?_
        refine fin_nxt ?_
        refine w_block ?_
        refine w_lp (ι := Int) (γ := Unit) (fun q1350 g1350 => [(11, isv (q1350))]) (fun q1350 g1350 => []) h () (mod_cons (j := 11) rfl (fun _ _ h => h) mod_nil) .nil (fun L1351 q1350 g1350 Q1600 h hL1351 eL1351 rL1351 => ?_)
        refine w_seq ?_
        refine w_seq ?_
        refine w_region ?_
        refine op_cons rfl (OpV.t (v_move rfl) ?_)
        refine op_cons rfl (OpV.t (v_fi rfl GMod.f2 fd26_2 rfl (z := a_m.names)) ?_)
        refine op_cons rfl (OpV.t (v_loadI ty22 rfl) ?_)
        refine op_cons rfl (OpV.t (v_ln (l := a_m.names) rfl (fun _ _ h => h) sl22) ?_)
        refine op_cons rfl (OpV.t (v_lss rfl rfl) ?_)
        refine rl_nil ?_
        refine fin_nxt ?_
        refine w_condM h rfl (fun _ h => ?_) (fun _ h => ?_)
        · skip
          refine w_skip ?_
          refine fin_nxt ?_
          refine w_seq ?_
          refine w_block ?_
          refine w_seq ?_
          refine w_region ?_
          refine op_cons rfl (OpV.t (v_move rfl) ?_)
          refine op_cons rfl (OpV.t (v_move rfl) ?_)
          refine op_cons rfl (OpV.t (v_move rfl) ?_)
          refine cal_inv h fun y1476 hy1476 h => ?_
          refine op_cons rfl (t_call (r07_reach_w hy1476) hT (.cons rfl appv_isv (.same rfl (.same rfl .nil))) .nil (fun R H' hR => ?_))
          obtain ⟨rfl, rfl⟩ := hR
          refine rl_nil ?_
          refine fin_nxt ?_
          refine w_condM h rfl (fun _ h => ?_) (fun _ h => ?_)
          · skip
            refine w_seq ?_
            refine w_region ?_
            refine op_cons rfl (OpV.t (v_move rfl) ?_)
            refine op_cons rfl (OpV.t (v_assign rfl) ?_)
            refine op_cons rfl (OpV.t (v_assign rfl) ?_)
            refine op_cons rfl (OpV.t (v_assign rfl) ?_)
            refine rl_nil ?_
            refine fin_nxt ?_
            refine w_ret ?_
            refine ret_block ?_
            refine ret_nxt ?_
            refine rL1351 _ ?_
            refine ret_block ?_
            refine ret_nxt ?_
            refine ret_post (.as rfl (nilv_isv (α := Int)) (.tmp rfl (.tmp rfl .nil))) .nil ?_
            obtain rfl := Option.some.inj h
            exact ⟨rfl, rfl⟩
          · skip
            refine w_skip ?_
            refine fin_block ?_
            refine fin_nxt ?_
            refine w_region ?_
            refine op_cons rfl (OpV.t (v_move rfl) ?_)
            refine ck_inv h fun q1477 h => ?_
            refine op_cons rfl (OpV.t (v_add rfl rfl q1477) ?_)
            refine op_cons rfl (OpV.t (v_assign rfl) ?_)
            refine rl_nil ?_
            exact hL1351 _ () h _ (join_imp 13 rfl rfl (mod_cons (j := 11) rfl (fun _ _ h => h) mod_nil) (.cons .here .nil))
        · skip
          refine w_exit ?_
          refine exi_nxt ?_
          refine eL1351 _ _ ?_
          refine exi_block ?_
          refine fin_nxt ?_
          refine w_seq ?_
          refine w_region ?_
          refine op_cons rfl (OpV.t (v_assign rfl) ?_)
          refine rl_nil ?_
          refine fin_nxt ?_
          refine w_seq ?_
          refine w_block ?_
          refine w_upd (upd_tok) ?_
          refine w_lp (ι := (List Int)) (γ := Tok) (fun q1478 g1478 => [(12, appv g1478 (q1478))]) (fun q1478 g1478 => [tokE g1478]) h (none) (mod_cons (j := 12) rfl nilv_appv mod_nil) (.cons .here .nil) (fun L1479 q1478 g1478 Q1599 h hL1479 eL1479 rL1479 => ?_)
          refine w_seq ?_
          refine w_seq ?_
          refine w_region ?_
          refine op_cons rfl (OpV.t (v_move rfl) ?_)
          refine op_cons rfl (OpV.t (v_ln (l := q1478) rfl appv_isv sl23) ?_)
          refine op_cons rfl (OpV.t (v_fi rfl GMod.f2 fd26_2 rfl (z := a_m.names)) ?_)
          refine op_cons rfl (OpV.t (v_loadI ty22 rfl) ?_)
          refine op_cons rfl (OpV.t (v_ln (l := a_m.names) rfl (fun _ _ h => h) sl22) ?_)
          refine op_cons rfl (OpV.t (v_lss rfl rfl) ?_)
          refine rl_nil ?_
          refine fin_nxt ?_
          refine w_condM h rfl (fun _ h => ?_) (fun _ h => ?_)
          · skip
            refine w_skip ?_
            refine fin_nxt ?_
            refine w_block ?_
            refine w_seq ?_
            refine w_region ?_
            refine op_cons rfl (OpV.t (v_assign rfl) ?_)
            refine rl_nil ?_
            refine fin_nxt ?_
            refine w_block ?_
            refine w_lp (ι := Int) (γ := Unit) (fun q1539 g1539 => [(13, isv (q1539))]) (fun q1539 g1539 => []) h () (mod_cons (j := 13) rfl (fun _ _ h => h) mod_nil) .nil (fun L1540 q1539 g1539 Q1597 h hL1540 eL1540 rL1540 => ?_)
            refine w_seq ?_
            refine w_seq ?_
            refine w_region ?_
            refine op_cons rfl (OpV.t (v_move rfl) ?_)
            refine op_cons rfl (OpV.t (v_fi rfl GMod.f2 fd26_2 rfl (z := a_m.names)) ?_)
            refine op_cons rfl (OpV.t (v_loadI ty22 rfl) ?_)
            refine op_cons rfl (OpV.t (v_ln (l := a_m.names) rfl (fun _ _ h => h) sl22) ?_)
            refine op_cons rfl (OpV.t (v_lss rfl rfl) ?_)
            refine rl_nil ?_
            refine fin_nxt ?_
            refine w_condM h rfl (fun _ h => ?_) (fun _ h => ?_)
            · skip
              refine w_skip ?_
              refine fin_nxt ?_
              refine w_seq ?_
              refine w_block ?_
              refine w_seq ?_
              refine w_region ?_
              refine op_cons rfl (OpV.t (v_move rfl) ?_)
              refine op_cons rfl (OpV.t (v_move rfl) ?_)
              refine cal_inv h fun y1569 hy1569 h => ?_
              refine op_cons rfl (t_call (h_In_int_w hy1569) hT (.cons rfl appv_isv (.same rfl .nil)) .nil (fun R H' hR => ?_))
              obtain ⟨rfl, rfl⟩ := hR
              refine op_cons rfl (OpV.t (v_not rfl) ?_)
              refine op_cons rfl (OpV.t (v_assign rfl) ?_)
              refine rl_nil ?_
              refine fin_nxt ?_
              refine w_seq ?_
              refine w_seq ?_
              refine w_region ?_
              refine op_cons rfl (OpV.t (v_assign rfl) ?_)
              refine rl_nil ?_
              refine fin_nxt ?_
              refine w_block ?_
              refine w_lp (ι := Bool × Int) (γ := Unit) (fun q1570 g1570 => [(14, isv (q1570.1)), (15, isv (q1570.2))]) (fun q1570 g1570 => []) h () (mod_cons (j := 14) rfl (fun _ _ h => h) (mod_cons (j := 15) rfl (fun _ _ h => h) mod_nil)) .nil (fun L1571 q1570 g1570 Q1596 h hL1571 eL1571 rL1571 => ?_)
              refine w_seq ?_
              refine w_seq ?_
              refine w_region ?_
              refine op_cons rfl (OpV.t (v_move rfl) ?_)
              refine op_cons rfl (OpV.t (v_move rfl) ?_)
              refine op_cons rfl (OpV.t (v_move rfl) ?_)
              refine cal_inv h fun y1584 hy1584 h => ?_
              refine op_cons rfl (OpV.t (v_ix (l := q807.1) rfl appv_isv rfl sl57 hy1584) ?_)
              refine op_cons rfl (OpV.t (v_loadI ty23 rfl) ?_)
              refine op_cons rfl (OpV.t (v_ln (l := y1584) rfl (fun _ _ h => h) sl23) ?_)
              refine op_cons rfl (OpV.t (v_lss rfl rfl) ?_)
              refine rl_nil ?_
              refine fin_nxt ?_
              refine w_condM h rfl (fun _ h => ?_) (fun _ h => ?_)
              · skip
                refine w_skip ?_
                refine fin_nxt ?_
                refine w_seq ?_
                refine w_block ?_
                refine w_region ?_
                refine op_cons rfl (OpV.t (v_move rfl) ?_)
                refine op_cons rfl (OpV.t (v_move rfl) ?_)
                refine rl_j (ι := Bool) (γ := Unit) (fun q1585 g1585 => [(113, isv (q1585))]) (fun q1585 g1585 => []) .nil h 10 rfl (fun q1585 g1585 h => ?_) (fun J1586 h hJ1586 => ?_)
                · skip
                  refine op_cons rfl (OpV.t (v_assign rfl) ?_)
                  refine rl_nil ?_
                  refine fin_block ?_
                  refine fin_nxt ?_
                  refine w_region ?_
                  refine op_cons rfl (OpV.t (v_move rfl) ?_)
                  refine ck_inv h fun q1591 h => ?_
                  refine op_cons rfl (OpV.t (v_add rfl rfl q1591) ?_)
                  refine op_cons rfl (OpV.t (v_assign rfl) ?_)
                  refine rl_nil ?_
                  exact hL1571 _ () h _ (join_imp 16 rfl rfl (mod_cons (j := 14) rfl (fun _ _ h => h) (mod_cons (j := 15) rfl (fun _ _ h => h) mod_nil)) (.cons .here (.cons .here .nil)))
                · skip
                  refine rl_condM (j := 103) h rfl (fun g1587 h => ?_) (fun g1587 h => ?_)
                  · skip
                    refine op_take rfl rfl (dj := 103) rfl g1587 (OpV.t (v_move rfl) ?_)
                    refine op_take rfl rfl (dj := 103) rfl g1587 (OpV.t (v_move rfl) ?_)
                    refine op_take rfl rfl (dj := 103) rfl g1587 (OpV.t (v_move rfl) ?_)
                    refine cal_inv h fun y1588 hy1588 h => ?_
                    refine op_take rfl rfl (dj := 103) rfl g1587 (OpV.t (v_ix (l := q807.1) rfl appv_isv rfl sl57 hy1588) ?_)
                    refine op_take rfl rfl (dj := 103) rfl g1587 (OpV.t (v_loadI ty23 rfl) ?_)
                    refine op_take rfl rfl (dj := 103) rfl g1587 (OpV.t (v_move rfl) ?_)
                    refine cal_inv h fun y1589 hy1589 h => ?_
                    refine op_take rfl rfl (dj := 103) rfl g1587 (OpV.t (v_ix (l := y1588) rfl (fun _ _ h => h) rfl sl23 hy1589) ?_)
                    refine op_take rfl rfl (dj := 103) rfl g1587 (OpV.t (v_loadI ty3 rfl) ?_)
                    refine cal_inv h fun y1590 hy1590 h => ?_
                    refine op_take rfl rfl (dj := 103) rfl g1587 (t_call (h_In_int_w hy1590) hT (.cons rfl appv_isv (.same rfl .nil)) .nil (fun R H' hR => ?_))
                    obtain ⟨rfl, rfl⟩ := hR
                    refine op_cons rfl (OpV.t (v_pick_t rfl g1587 rfl) ?_)
                    exact hJ1586 _ () h _ (join_imp 10 rfl rfl (mod_cons (j := 113) rfl (fun _ _ h => h) mod_nil) (.cons .here (.cons .here .nil)))
                  · skip
                    refine op_pass rfl (dj := 103) rfl g1587 ?_
                    refine op_pass rfl (dj := 103) rfl g1587 ?_
                    refine op_pass rfl (dj := 103) rfl g1587 ?_
                    refine op_pass rfl (dj := 103) rfl g1587 ?_
                    refine op_pass rfl (dj := 103) rfl g1587 ?_
                    refine op_pass rfl (dj := 103) rfl g1587 ?_
                    refine op_pass rfl (dj := 103) rfl g1587 ?_
                    refine op_pass rfl (dj := 103) rfl g1587 ?_
                    refine op_pass rfl (dj := 103) rfl g1587 ?_
                    refine op_cons rfl (OpV.t (v_pick_f rfl g1587 rfl) ?_)
                    exact hJ1586 _ () h _ (join_imp 10 rfl rfl (mod_cons (j := 113) rfl (fun _ _ h => h) mod_nil) (.cons .here (.cons .here .nil)))
              · skip
                refine w_exit ?_
                refine exi_nxt ?_
                refine eL1571 _ _ ?_
                refine exi_block ?_
                refine fin_nxt ?_
                refine w_seq ?_
                refine w_region ?_
                refine op_cons rfl (OpV.t (v_move rfl) ?_)
                refine rl_nil ?_
                refine fin_nxt ?_
                refine w_condM h rfl (fun _ h => ?_) (fun _ h => ?_)
                · skip
                  refine w_seq ?_
                  refine w_region ?_
                  refine op_cons rfl (OpV.t (v_move rfl) ?_)
                  refine op_cons rfl (OpV.t (v_move rfl) ?_)
                  refine op_cons rfl (t_buildSlice (l := ([q1539] : (List Int))) el23 (.cons rfl (fun _ _ h => h) .nil) rfl rfl ?_)
                  refine asr_inv h fun q1594 h => ?_
                  refine op_cons rfl (t_appC (l := q1478) (m := ([q1539] : (List Int))) ap23_23 rfl (fun _ _ h => h) rfl appv_isv .here q1594 fun t1593 => ?_)
                  refine op_cons rfl (OpV.t (v_assign rfl) ?_)
                  refine rl_nil ?_
                  refine fin_nxt ?_
                  refine w_exit ?_
                  refine exi_pass rfl ?_
                  refine exi_nxt ?_
                  refine eL1540 _ _ ?_
                  refine exi_block ?_
                  refine fin_block ?_
                  exact hL1479 _ (t1593) h _ (join_imp 35 rfl rfl (mod_cons (j := 12) rfl (fun _ _ h => h) mod_nil) (.cons .here (.cons .here .nil)))
                · skip
                  refine w_skip ?_
                  refine fin_block ?_
                  refine fin_nxt ?_
                  refine w_region ?_
                  refine op_cons rfl (OpV.t (v_move rfl) ?_)
                  refine ck_inv h fun q1595 h => ?_
                  refine op_cons rfl (OpV.t (v_add rfl rfl q1595) ?_)
                  refine op_cons rfl (OpV.t (v_assign rfl) ?_)
                  refine rl_nil ?_
                  exact hL1540 _ () h _ (join_imp 25 rfl rfl (mod_cons (j := 13) rfl (fun _ _ h => h) mod_nil) (.cons .here (.cons .here .nil)))
            · skip
              refine w_exit ?_
              refine exi_nxt ?_
              refine eL1540 _ _ ?_
              refine exi_block ?_
              refine fin_block ?_
              exact hL1479 _ (g1478) h _ (join_imp 14 rfl rfl (mod_cons (j := 12) rfl (fun _ _ h => h) mod_nil) (.cons .here (.cons .here .nil)))
          · skip
            refine w_exit ?_
            refine exi_nxt ?_
            refine eL1479 _ _ ?_
            refine exi_block ?_
            refine fin_nxt ?_
            refine w_seq ?_
            refine w_region ?_
            refine op_cons rfl (OpV.t (v_move rfl) ?_)
            refine op_cons rfl (OpV.t (v_assign rfl) ?_)
            refine op_cons rfl (OpV.t (v_assign rfl) ?_)
            refine op_cons rfl (OpV.t (v_assign rfl) ?_)
            refine rl_nil ?_
            refine fin_nxt ?_
            refine w_ret ?_
            refine ret_post (.as rfl appv_isv (.tmp rfl (.tmp rfl .nil))) .nil ?_
            obtain rfl := Option.some.inj h
            exact ⟨rfl, rfl⟩


theorem r07_Uses_w : ∀ {a_m : GMod} {a_node : Int} {r : (List Int)}, r07_Uses a_m a_node = some r → Ctr Tryd.prog 16 [isv (a_m), isv (a_node)] [] (fun R H => R = oneOf [isv (r)] ∧ H = []) := by
  intro a_m a_node r h
  unfold r07_Uses at h
  refine spec_intro Tryd.func16 rfl (by decide +kernel) (by rfl) fun w0 S0 hT => ?_
  refine w_seq ?_
  refine w_region ?_
  refine op_cons rfl (t_boxIC (y := a_m) rfl (fun _ _ h => h) ?_)
  refine op_cons rfl (OpV.t (v_assign rfl) ?_)
  refine rl_nil ?_
  refine fin_nxt ?_
  refine w_seq ?_
  refine w_region ?_
  refine op_cons rfl (OpV.t (v_loadI ty26 rfl) ?_)
  refine op_cons rfl (OpV.t (v_move rfl) ?_)
  refine rl_upd (upd_tok) ?_
  refine cal_inv h fun y2 hy2 h => ?_
  refine op_cons rfl (t_call (r07_uses_w fuel hy2) hT (.same rfl (.same rfl (.same rfl (.cons rfl nilv_appv .nil)))) (.cons .here .nil) (fun R H' hR => ?_))
  obtain ⟨t3, rfl, rfl⟩ := hR
  refine op_cons rfl (OpV.t (v_move rfl) ?_)
  refine op_cons rfl (OpV.t (v_extract rfl rfl) ?_)
  refine op_cons rfl (OpV.t (v_extract rfl rfl) ?_)
  refine op_cons rfl (OpV.t (v_assign rfl) ?_)
  refine op_cons rfl (OpV.t (v_assign rfl) ?_)
  refine rl_nil ?_
  refine fin_nxt ?_
  refine w_seq ?_
  refine w_region ?_
  refine op_cons rfl (OpV.t (v_move rfl) ?_)
  refine op_cons rfl (OpV.t (v_assign rfl) ?_)
  refine rl_nil ?_
  refine fin_nxt ?_
  refine w_ret ?_
  refine ret_post (.as rfl appv_isv .nil) .nil ?_
  obtain rfl := Option.some.inj h
  exact ⟨rfl, rfl⟩


theorem h_Plain_int_c1_w : ∀ {a_x : Int} {a_y : Int} {r : Bool}, h_Plain_int_c1 a_x a_y = some r → Ctr Tryd.prog 36 [isv (a_x), isv (a_y)] [] (fun R H => R = oneOf [isv (r)] ∧ H = []) := by
  intro a_x a_y r h
  unfold h_Plain_int_c1 at h
  refine spec_intro Tryd.func36 rfl (by decide +kernel) (by rfl) fun w0 S0 hT => ?_
  refine w_seq ?_
  refine w_region ?_
  refine op_cons rfl (OpV.t (v_assign rfl) ?_)
  refine rl_nil ?_
  refine fin_nxt ?_
  refine w_seq ?_
  refine w_region ?_
  refine op_cons rfl (OpV.t (v_move rfl) ?_)
  refine op_cons rfl (OpV.t (v_move rfl) ?_)
  refine op_cons rfl (OpV.t (v_eql rfl rfl) ?_)
  refine op_cons rfl (OpV.t (v_assign rfl) ?_)
  refine rl_nil ?_
  refine fin_nxt ?_
  refine w_ret ?_
  refine ret_post (.tmp rfl .nil) .nil ?_
  obtain rfl := Option.some.inj h
  exact ⟨rfl, rfl⟩

end Go.Proofs.YtdcdndflfhaejaaDoor
