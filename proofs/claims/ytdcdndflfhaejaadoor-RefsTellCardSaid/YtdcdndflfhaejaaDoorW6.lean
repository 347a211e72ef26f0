/- Walks, printed by mill.py. -/
import Derived.Test.YtdcdndflfhaejaaDoorW5
namespace Go.Proofs.YtdcdndflfhaejaaDoor
open Go.Sy
set_option maxRecDepth 4000
theorem h_Same_int_w : ∀ {a_a : (List Int)} {a_b : (List Int)} {r : Bool}, h_Same_int a_a a_b = some r → Ctr Tryd.prog 35 [isv (a_a), isv (a_b), clov 36 []] [] (fun R H => R = oneOf [isv (r)] ∧ H = []) := by
  intro a_a a_b r h
  unfold h_Same_int at h
  refine spec_intro Tryd.func35 rfl (by decide +kernel) (by rfl) fun w0 S0 hT => ?_
  refine w_seq ?_
  refine w_region ?_
  refine op_cons rfl (OpV.t (v_assign rfl) ?_)
  refine rl_nil ?_
  refine fin_nxt ?_
  refine w_seq ?_
  refine w_seq ?_
  refine w_region ?_
  refine op_cons rfl (OpV.t (v_move rfl) ?_)
  refine op_cons rfl (OpV.t (v_ln (l := a_a) rfl (fun _ _ h => h) sl23) ?_)
  refine op_cons rfl (OpV.t (v_move rfl) ?_)
  refine op_cons rfl (OpV.t (v_ln (l := a_b) rfl (fun _ _ h => h) sl23) ?_)
  refine op_cons rfl (OpV.t (v_neq rfl rfl) ?_)
  refine rl_nil ?_
  refine fin_nxt ?_
  refine w_condM h rfl (fun _ h => ?_) (fun _ h => ?_)
  · skip
    refine w_seq ?_
    refine w_region ?_
    refine op_cons rfl (OpV.t (v_assign rfl) ?_)
    refine rl_nil ?_
    refine fin_nxt ?_
    refine w_ret ?_
    refine ret_nxt ?_
    refine ret_post (.tmp rfl .nil) .nil ?_
    obtain rfl := Option.some.inj h
    exact ⟨rfl, rfl⟩
  · skip
    refine w_skip ?_
    refine fin_nxt ?_
    refine w_seq ?_
    refine w_seq ?_
    refine w_region ?_
    refine op_cons rfl (OpV.t (v_assign rfl) ?_)
    refine rl_nil ?_
    refine fin_nxt ?_
    refine w_block ?_
    refine w_lp (ι := Int) (γ := Unit) (fun q1 g1 => [(7, isv (q1))]) (fun q1 g1 => []) h () (mod_cons (j := 7) rfl (fun _ _ h => h) mod_nil) .nil (fun L2 q1 g1 Q11 h hL2 eL2 rL2 => ?_)
    refine w_seq ?_
    refine w_seq ?_
    refine w_region ?_
    refine op_cons rfl (OpV.t (v_move rfl) ?_)
    refine op_cons rfl (OpV.t (v_move rfl) ?_)
    refine op_cons rfl (OpV.t (v_ln (l := a_a) rfl (fun _ _ h => h) sl23) ?_)
    refine op_cons rfl (OpV.t (v_lss rfl rfl) ?_)
    refine rl_nil ?_
    refine fin_nxt ?_
    refine w_condM h rfl (fun _ h => ?_) (fun _ h => ?_)
    · skip
      refine w_skip ?_
      refine fin_nxt ?_
      refine w_seq ?_
      refine w_block ?_
      refine w_seq ?_
      refine w_regionD (.v 0 (.v 1 (.v 2 (.v 3 (.v 4 (.v 5 (.v 6 (.v 7 (.v 8 (.t 9 (.v 10 .nil))))))))))) moOrd (by kernel_rfl) ?_
      refine rd_v rfl (v_move rfl) ?_
      refine rd_v rfl (v_move rfl) ?_
      refine rd_v rfl (v_move rfl) ?_
      refine cal_inv h fun y7 hy7 h => ?_
      refine rd_v rfl (v_ix (l := a_a) rfl (fun _ _ h => h) rfl sl23 hy7) ?_
      refine rd_v rfl (v_loadI ty3 rfl) ?_
      refine rd_v rfl (v_move rfl) ?_
      refine rd_v rfl (v_move rfl) ?_
      refine cal_inv h fun y8 hy8 h => ?_
      refine rd_v rfl (v_ix (l := a_b) rfl (fun _ _ h => h) rfl sl23 hy8) ?_
      refine rd_v rfl (v_loadI ty3 rfl) ?_
      refine cal_inv h fun y9 hy9 h => ?_
      refine rd_t rfl rfl (t_callC rfl (.same rfl (.same rfl .nil)) (h_Plain_int_c1_w hy9) hT .nil (fun R H' hR => ?_))
      obtain ⟨rfl, rfl⟩ := hR
      refine rd_v rfl (v_not rfl) ?_
      refine rd_nil ?_
      refine fin_nxt ?_
      refine w_condM h rfl (fun _ h => ?_) (fun _ h => ?_)
      · skip
        refine w_seq ?_
        refine w_region ?_
        refine op_cons rfl (OpV.t (v_assign rfl) ?_)
        refine rl_nil ?_
        refine fin_nxt ?_
        refine w_ret ?_
        refine ret_block ?_
        refine ret_nxt ?_
        refine rL2 _ ?_
        refine ret_block ?_
        refine ret_nxt ?_
        refine ret_post (.tmp rfl .nil) .nil ?_
        obtain rfl := Option.some.inj h
        exact ⟨rfl, rfl⟩
      · skip
        refine w_skip ?_
        refine fin_block ?_
        refine fin_nxt ?_
        refine w_region ?_
        refine op_cons rfl (OpV.t (v_move rfl) ?_)
        refine ck_inv h fun q10 h => ?_
        refine op_cons rfl (OpV.t (v_add rfl rfl q10) ?_)
        refine op_cons rfl (OpV.t (v_assign rfl) ?_)
        refine rl_nil ?_
        exact hL2 _ () h _ (join_imp 19 rfl rfl (mod_cons (j := 7) rfl (fun _ _ h => h) mod_nil) .nil)
    · skip
      refine w_exit ?_
      refine exi_nxt ?_
      refine eL2 _ _ ?_
      refine exi_block ?_
      refine fin_nxt ?_
      refine w_seq ?_
      refine w_region ?_
      refine op_cons rfl (OpV.t (v_assign rfl) ?_)
      refine rl_nil ?_
      refine fin_nxt ?_
      refine w_ret ?_
      refine ret_post (.tmp rfl .nil) .nil ?_
      obtain rfl := Option.some.inj h
      exact ⟨rfl, rfl⟩


theorem h_Plain_int_w : ∀ {a_a : (List Int)} {a_b : (List Int)} {r : Bool}, h_Plain_int a_a a_b = some r → Ctr Tryd.prog 14 [isv (a_a), isv (a_b)] [] (fun R H => R = oneOf [isv (r)] ∧ H = []) := by
  intro a_a a_b r h
  unfold h_Plain_int at h
  refine spec_intro Tryd.func14 rfl (by decide +kernel) (by rfl) fun w0 S0 hT => ?_
  refine w_seq ?_
  refine w_region ?_
  refine op_cons rfl (OpV.t (v_assign rfl) ?_)
  refine rl_nil ?_
  refine fin_nxt ?_
  refine w_seq ?_
  refine w_region ?_
  refine op_cons rfl (OpV.t (v_move rfl) ?_)
  refine op_cons rfl (OpV.t (v_move rfl) ?_)
  refine cal_inv h fun y1 hy1 h => ?_
  refine op_cons rfl (t_call (h_Same_int_w hy1) hT (.same rfl (.same rfl (.same rfl .nil))) .nil (fun R H' hR => ?_))
  obtain ⟨rfl, rfl⟩ := hR
  refine op_cons rfl (OpV.t (v_assign rfl) ?_)
  refine rl_nil ?_
  refine fin_nxt ?_
  refine w_ret ?_
  refine ret_post (.tmp rfl .nil) .nil ?_
  obtain rfl := Option.some.inj h
  exact ⟨rfl, rfl⟩


theorem law07_RefsTell_w : ∀ {a_text : Str} {a_name : Str} {a_node : Int} {r : Bool}, law07_RefsTell a_text a_name a_node = some r → Ctr Tryd.prog 3 [isv (a_text), isv (a_name), isv (a_node)] [] (fun R H => R = oneOf [isv (r)] ∧ H = []) := by
  intro a_text a_name a_node r h
  unfold law07_RefsTell at h
  refine spec_intro Tryd.func3 rfl (by decide +kernel) (by rfl) fun w0 S0 hT => ?_
  refine w_seq ?_
  refine w_region ?_
  refine op_cons rfl (OpV.t (v_assign rfl) ?_)
  refine rl_nil ?_
  refine fin_nxt ?_
  refine w_seq ?_
  refine w_region ?_
  refine op_cons rfl (OpV.t (v_move rfl) ?_)
  refine cal_inv h fun y1 hy1 h => ?_
  refine op_cons rfl (t_call (r05_Parse_w hy1) hT (.same rfl .nil) .nil (fun R H' hR => ?_))
  obtain ⟨rfl, rfl⟩ := hR
  refine op_cons rfl (OpV.t (v_move rfl) ?_)
  refine op_cons rfl (OpV.t (v_extract rfl rfl) ?_)
  refine op_cons rfl (OpV.t (v_extract rfl rfl) ?_)
  refine op_cons rfl (OpV.t (v_extract rfl rfl) ?_)
  refine op_cons rfl (t_alloc _ ze26 fun b2 => ?_)
  refine op_cons rfl (t_storeC (y' := (y1.1 : GMod)) ty26 rfl rfl (fun _ _ h => h) .here rfl ?_)
  refine rl_upd (upd_imm 7 .here rfl) ?_
  refine op_cons rfl (OpV.t (v_assign rfl) ?_)
  refine op_cons rfl (OpV.t (v_assign rfl) ?_)
  refine rl_nil ?_
  refine fin_nxt ?_
  refine w_seq ?_
  refine w_seq ?_
  refine w_region ?_
  refine op_cons rfl (OpV.t (v_move rfl) ?_)
  refine op_cons rfl (OpV.t (v_lenS st9 rfl) ?_)
  refine op_cons rfl (OpV.t (v_gtr rfl rfl) ?_)
  refine op_cons rfl (OpV.t (v_move rfl) ?_)
  refine rl_j (ι := Bool) (γ := Unit) (fun q3 g3 => [(28, isv (q3))]) (fun q3 g3 => []) .nil h 3 rfl (fun q3 g3 h => ?_) (fun J4 h hJ4 => ?_)
  · skip
    refine rl_nil ?_
    refine fin_nxt ?_
    refine w_condM h rfl (fun _ h => ?_) (fun _ h => ?_)
    · skip
      refine w_seq ?_
      refine w_region ?_
      refine cal_inv h fun y6 hy6 h => ?_
      refine op_cons rfl (t_call (law07_awake_w hy6) hT .nil .nil (fun R H' hR => ?_))
      obtain ⟨rfl, rfl⟩ := hR
      refine op_cons rfl (OpV.t (v_assign rfl) ?_)
      refine rl_nil ?_
      refine fin_nxt ?_
      refine w_ret ?_
      refine ret_nxt ?_
      refine ret_post (.tmp rfl .nil) .nil ?_
      obtain rfl := Option.some.inj h
      exact ⟨rfl, rfl⟩
    · skip
      refine w_skip ?_
      refine fin_nxt ?_
      refine w_seq ?_
      refine w_region ?_
      refine op_cons rfl (OpV.t (v_loadI ty26 rfl) ?_)
      refine cal_inv h fun y7 hy7 h => ?_
      refine op_cons rfl (t_call (refs_Order_w hy7) hT (.same rfl .nil) .nil (fun R H' hR => ?_))
      obtain ⟨rfl, rfl⟩ := hR
      refine op_cons rfl (OpV.t (v_move rfl) ?_)
      refine op_cons rfl (OpV.t (v_extract rfl rfl) ?_)
      refine op_cons rfl (OpV.t (v_extract rfl rfl) ?_)
      refine op_cons rfl (OpV.t (v_extract rfl rfl) ?_)
      refine op_cons rfl (OpV.t (v_assign rfl) ?_)
      refine op_cons rfl (OpV.t (v_assign rfl) ?_)
      refine op_cons rfl (OpV.t (v_assign rfl) ?_)
      refine rl_nil ?_
      refine fin_nxt ?_
      refine w_seq ?_
      refine w_region ?_
      refine op_cons rfl (OpV.t (v_loadI ty26 rfl) ?_)
      refine cal_inv h fun y8 hy8 h => ?_
      refine op_cons rfl (t_call (r07_Order_w hy8) hT (.same rfl .nil) .nil (fun R H' hR => ?_))
      obtain ⟨rfl, rfl⟩ := hR
      refine op_cons rfl (OpV.t (v_move rfl) ?_)
      refine op_cons rfl (OpV.t (v_extract rfl rfl) ?_)
      refine op_cons rfl (OpV.t (v_extract rfl rfl) ?_)
      refine op_cons rfl (OpV.t (v_extract rfl rfl) ?_)
      refine op_cons rfl (OpV.t (v_assign rfl) ?_)
      refine op_cons rfl (OpV.t (v_assign rfl) ?_)
      refine op_cons rfl (OpV.t (v_assign rfl) ?_)
      refine rl_nil ?_
      refine fin_nxt ?_
      refine w_seq ?_
      refine w_regionD (.t 0 (.v 1 (.v 2 (.v 3 (.v 5 (.v 6 (.t 4 (.t 7 (.v 8 (.v 9 (.v 10 (.v 11 (.v 12 (.v 14 (.v 15 (.t 13 (.t 16 (.t 17 (.v 18 (.v 19 (.v 20 (.v 21 (.t 22 (.v 23 (.v 24 (.v 25 (.v 26 (.v 27 (.v 28 (.v 29 (.v 30 (.v 31 (.v 32 (.v 33 (.v 34 .nil))))))))))))))))))))))))))))))))))) moOrd (by kernel_rfl) ?_
      refine cal_inv h fun y9 hy9 h => ?_
      refine rd_t rfl rfl (t_call (law07_awake_w hy9) hT .nil .nil (fun R H' hR => ?_))
      obtain ⟨rfl, rfl⟩ := hR
      refine rd_v rfl (v_move rfl) ?_
      refine rd_j (ι := Bool) (γ := Unit) (fun q10 g10 => [(51, isv (q10))]) (fun q10 g10 => []) .nil h 8 rfl (fun q10 g10 h => ?_) (fun J11 h hJ11 => ?_)
      · skip
        refine rd_v rfl (v_move rfl) ?_
        refine rd_j (ι := Bool) (γ := Unit) (fun q15 g15 => [(60, isv (q15))]) (fun q15 g15 => []) .nil h 8 rfl (fun q15 g15 h => ?_) (fun J16 h hJ16 => ?_)
        · skip
          refine rd_v rfl (v_move rfl) ?_
          refine rd_j (ι := Bool) (γ := Unit) (fun q21 g21 => [(65, isv (q21))]) (fun q21 g21 => []) .nil h 4 rfl (fun q21 g21 h => ?_) (fun J22 h hJ22 => ?_)
          · skip
            refine rd_v rfl (v_move rfl) ?_
            refine rd_j (ι := Bool) (γ := Unit) (fun q25 g25 => [(70, isv (q25))]) (fun q25 g25 => []) .nil h 4 rfl (fun q25 g25 h => ?_) (fun J26 h hJ26 => ?_)
            · skip
              refine rd_v rfl (v_move rfl) ?_
              refine rd_j (ι := Bool) (γ := Unit) (fun q28 g28 => [(75, isv (q28))]) (fun q28 g28 => []) .nil h 4 rfl (fun q28 g28 h => ?_) (fun J29 h hJ29 => ?_)
              · skip
                refine rd_v rfl (v_assign rfl) ?_
                refine rd_nil ?_
                refine fin_nxt ?_
                refine w_ret ?_
                refine ret_post (.tmp rfl .nil) .nil ?_
                obtain rfl := Option.some.inj h
                exact ⟨rfl, rfl⟩
              · skip
                refine rd_condM (j := 71) h rfl (fun g30 h => ?_) (fun g30 h => ?_)
                · skip
                  refine rd_vt rfl rfl (dj := 71) rfl g30 (v_move rfl) ?_
                  refine rd_vt rfl rfl (dj := 71) rfl g30 (v_move rfl) ?_
                  refine rd_vt rfl rfl (dj := 71) rfl g30 (v_eql rfl rfl) ?_
                  refine rd_v rfl (v_pick_t rfl g30 rfl) ?_
                  exact hJ29 _ () h _ (join_imp 4 rfl rfl (mod_cons (j := 75) rfl (fun _ _ h => h) mod_nil) .nil)
                · skip
                  refine rd_passV rfl rfl (dj := 71) rfl g30 ?_
                  refine rd_passV rfl rfl (dj := 71) rfl g30 ?_
                  refine rd_passV rfl rfl (dj := 71) rfl g30 ?_
                  refine rd_v rfl (v_pick_f rfl g30 rfl) ?_
                  exact hJ29 _ () h _ (join_imp 4 rfl rfl (mod_cons (j := 75) rfl (fun _ _ h => h) mod_nil) .nil)
            · skip
              refine rd_condM (j := 66) h rfl (fun g27 h => ?_) (fun g27 h => ?_)
              · skip
                refine rd_vt rfl rfl (dj := 66) rfl g27 (v_move rfl) ?_
                refine rd_vt rfl rfl (dj := 66) rfl g27 (v_move rfl) ?_
                refine rd_vt rfl rfl (dj := 66) rfl g27 (v_eql rfl rfl) ?_
                refine rd_v rfl (v_pick_t rfl g27 rfl) ?_
                exact hJ26 _ () h _ (join_imp 4 rfl rfl (mod_cons (j := 70) rfl (fun _ _ h => h) mod_nil) .nil)
              · skip
                refine rd_passV rfl rfl (dj := 66) rfl g27 ?_
                refine rd_passV rfl rfl (dj := 66) rfl g27 ?_
                refine rd_passV rfl rfl (dj := 66) rfl g27 ?_
                refine rd_v rfl (v_pick_f rfl g27 rfl) ?_
                exact hJ26 _ () h _ (join_imp 4 rfl rfl (mod_cons (j := 70) rfl (fun _ _ h => h) mod_nil) .nil)
          · skip
            refine rd_condM (j := 61) h rfl (fun g23 h => ?_) (fun g23 h => ?_)
            · skip
              refine rd_vt rfl rfl (dj := 61) rfl g23 (v_move rfl) ?_
              refine rd_vt rfl rfl (dj := 61) rfl g23 (v_move rfl) ?_
              refine cal_inv h fun y24 hy24 h => ?_
              refine rd_tt rfl rfl rfl (dj := 61) rfl g23 (t_call (h_Plain_int_w hy24) hT (.same rfl (.same rfl .nil)) .nil (fun R H' hR => ?_))
              obtain ⟨rfl, rfl⟩ := hR
              refine rd_v rfl (v_pick_t rfl g23 rfl) ?_
              exact hJ22 _ () h _ (join_imp 4 rfl rfl (mod_cons (j := 65) rfl (fun _ _ h => h) mod_nil) .nil)
            · skip
              refine rd_passV rfl rfl (dj := 61) rfl g23 ?_
              refine rd_passV rfl rfl (dj := 61) rfl g23 ?_
              refine rd_passT rfl rfl (dj := 61) rfl g23 ?_
              refine rd_v rfl (v_pick_f rfl g23 rfl) ?_
              exact hJ22 _ () h _ (join_imp 4 rfl rfl (mod_cons (j := 65) rfl (fun _ _ h => h) mod_nil) .nil)
        · skip
          refine rd_condM (j := 52) h rfl (fun g17 h => ?_) (fun g17 h => ?_)
          · skip
            refine rd_vt rfl rfl (dj := 52) rfl g17 (v_loadI ty26 rfl) ?_
            refine rd_vt rfl rfl (dj := 52) rfl g17 (v_move rfl) ?_
            refine rd_vt rfl rfl (dj := 52) rfl g17 (v_loadI ty26 rfl) ?_
            refine rd_vt rfl rfl (dj := 52) rfl g17 (v_move rfl) ?_
            refine cal_inv h fun y18 hy18 h => ?_
            refine rd_tt rfl rfl rfl (dj := 52) rfl g17 (t_call (refs_Uses_w hy18) hT (.same rfl (.same rfl .nil)) .nil (fun R H' hR => ?_))
            obtain ⟨rfl, rfl⟩ := hR
            refine cal_inv h fun y19 hy19 h => ?_
            refine rd_tt rfl rfl rfl (dj := 52) rfl g17 (t_call (r07_Uses_w hy19) hT (.same rfl (.same rfl .nil)) .nil (fun R H' hR => ?_))
            obtain ⟨rfl, rfl⟩ := hR
            refine cal_inv h fun y20 hy20 h => ?_
            refine rd_tt rfl rfl rfl (dj := 52) rfl g17 (t_call (h_Plain_int_w hy20) hT (.same rfl (.same rfl .nil)) .nil (fun R H' hR => ?_))
            obtain ⟨rfl, rfl⟩ := hR
            refine rd_v rfl (v_pick_t rfl g17 rfl) ?_
            exact hJ16 _ () h _ (join_imp 8 rfl rfl (mod_cons (j := 60) rfl (fun _ _ h => h) mod_nil) .nil)
          · skip
            refine rd_passV rfl rfl (dj := 52) rfl g17 ?_
            refine rd_passV rfl rfl (dj := 52) rfl g17 ?_
            refine rd_passV rfl rfl (dj := 52) rfl g17 ?_
            refine rd_passV rfl rfl (dj := 52) rfl g17 ?_
            refine rd_passT rfl rfl (dj := 52) rfl g17 ?_
            refine rd_passT rfl rfl (dj := 52) rfl g17 ?_
            refine rd_passT rfl rfl (dj := 52) rfl g17 ?_
            refine rd_v rfl (v_pick_f rfl g17 rfl) ?_
            exact hJ16 _ () h _ (join_imp 8 rfl rfl (mod_cons (j := 60) rfl (fun _ _ h => h) mod_nil) .nil)
      · skip
        refine rd_condM (j := 43) h rfl (fun g12 h => ?_) (fun g12 h => ?_)
        · skip
          refine rd_vt rfl rfl (dj := 43) rfl g12 (v_loadI ty26 rfl) ?_
          refine rd_vt rfl rfl (dj := 43) rfl g12 (v_move rfl) ?_
          refine rd_vt rfl rfl (dj := 43) rfl g12 (v_loadI ty26 rfl) ?_
          refine rd_vt rfl rfl (dj := 43) rfl g12 (v_move rfl) ?_
          refine cal_inv h fun y13 hy13 h => ?_
          refine rd_tt rfl rfl rfl (dj := 43) rfl g12 (t_call (refs_Find_w hy13) hT (.same rfl (.same rfl .nil)) .nil (fun R H' hR => ?_))
          obtain ⟨rfl, rfl⟩ := hR
          refine cal_inv h fun y14 hy14 h => ?_
          refine rd_tt rfl rfl rfl (dj := 43) rfl g12 (t_call (r07_Find_w hy14) hT (.same rfl (.same rfl .nil)) .nil (fun R H' hR => ?_))
          obtain ⟨rfl, rfl⟩ := hR
          refine rd_vt rfl rfl (dj := 43) rfl g12 (v_eql rfl rfl) ?_
          refine rd_v rfl (v_pick_t rfl g12 rfl) ?_
          exact hJ11 _ () h _ (join_imp 8 rfl rfl (mod_cons (j := 51) rfl (fun _ _ h => h) mod_nil) .nil)
        · skip
          refine rd_passV rfl rfl (dj := 43) rfl g12 ?_
          refine rd_passV rfl rfl (dj := 43) rfl g12 ?_
          refine rd_passV rfl rfl (dj := 43) rfl g12 ?_
          refine rd_passV rfl rfl (dj := 43) rfl g12 ?_
          refine rd_passT rfl rfl (dj := 43) rfl g12 ?_
          refine rd_passT rfl rfl (dj := 43) rfl g12 ?_
          refine rd_passV rfl rfl (dj := 43) rfl g12 ?_
          refine rd_v rfl (v_pick_f rfl g12 rfl) ?_
          exact hJ11 _ () h _ (join_imp 8 rfl rfl (mod_cons (j := 51) rfl (fun _ _ h => h) mod_nil) .nil)
  · skip
    refine rl_condM (j := 25) h rfl (fun g5 h => ?_) (fun g5 h => ?_)
    · skip
      refine op_pass rfl (dj := 25) rfl g5 ?_
      refine op_pass rfl (dj := 25) rfl g5 ?_
      refine op_cons rfl (OpV.t (v_pick_t rfl g5 rfl) ?_)
      exact hJ4 _ () h _ (join_imp 3 rfl rfl (mod_cons (j := 28) rfl (fun _ _ h => h) mod_nil) .nil)
    · skip
      refine op_take rfl rfl (dj := 25) rfl g5 (OpV.t (v_move rfl) ?_)
      refine op_take rfl rfl (dj := 25) rfl g5 (OpV.t (v_neq rfl rfl) ?_)
      refine op_cons rfl (OpV.t (v_pick_f rfl g5 rfl) ?_)
      exact hJ4 _ () h _ (join_imp 3 rfl rfl (mod_cons (j := 28) rfl (fun _ _ h => h) mod_nil) .nil)

end Go.Proofs.YtdcdndflfhaejaaDoor
