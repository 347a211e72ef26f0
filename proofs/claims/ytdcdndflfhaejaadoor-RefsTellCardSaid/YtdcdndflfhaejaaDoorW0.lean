/- Walks, printed by mill.py. -/
import Derived.Test.YtdcdndflfhaejaaDoorFacts
namespace Go.Proofs.YtdcdndflfhaejaaDoor
open Go.Sy
set_option maxRecDepth 4000
theorem r04_at_w : ∀ {a_s : Str} {a_i : Int} {r : UInt8}, r04_at a_s a_i = some r → Ctr Tryd.prog 51 [isv (a_s), isv (a_i)] [] (fun R H => R = oneOf [isv (r)] ∧ H = []) := by
  intro a_s a_i r h
  unfold r04_at at h
  refine spec_intro Tryd.func51 rfl (by decide +kernel) (by rfl) fun w0 S0 hT => ?_
  refine w_seq ?_
  refine w_region ?_
  refine op_cons rfl (OpV.t (v_assign rfl) ?_)
  refine rl_nil ?_
  refine fin_nxt ?_
  refine w_seq ?_
  refine w_seq ?_
  refine w_region ?_
  refine op_cons rfl (OpV.t (v_move rfl) ?_)
  refine op_cons rfl (OpV.t (v_lss rfl rfl) ?_)
  refine op_cons rfl (OpV.t (v_move rfl) ?_)
  refine rl_j (ι := Bool) (γ := Unit) (fun q1 g1 => [(12, isv (q1))]) (fun q1 g1 => []) .nil h 5 rfl (fun q1 g1 h => ?_) (fun J2 h hJ2 => ?_)
  · skip
    refine rl_nil ?_
    refine fin_nxt ?_
    refine w_condM h rfl (fun _ h => ?_) (fun _ h => ?_)
    · skip
      refine w_seq ?_
      refine w_region ?_
      refine op_cons rfl (OpV.t (v_assign rfl) ?_)
      refine rl_nil ?_
      refine fin_nxt ?_
      refine w_ret ?_
      refine ret_nxt ?_
      refine ret_post (.tmp rfl .nil) .nil ?_
      obtain rfl := Option.some.inj h
      exact ⟨rfl, rfl⟩
    · skip
      refine w_skip ?_
      refine fin_nxt ?_
      refine w_seq ?_
      refine w_region ?_
      refine op_cons rfl (OpV.t (v_move rfl) ?_)
      refine op_cons rfl (OpV.t (v_move rfl) ?_)
      refine cal_inv h fun y4 hy4 h => ?_
      refine op_cons rfl (OpV.t (v_idxS y4 st9 rfl rfl hy4) ?_)
      refine op_cons rfl (OpV.t (v_assign rfl) ?_)
      refine rl_nil ?_
      refine fin_nxt ?_
      refine w_ret ?_
      refine ret_post (.tmp rfl .nil) .nil ?_
      obtain rfl := Option.some.inj h
      exact ⟨rfl, rfl⟩
  · skip
    refine rl_condM (j := 7) h rfl (fun g3 h => ?_) (fun g3 h => ?_)
    · skip
      refine op_pass rfl (dj := 7) rfl g3 ?_
      refine op_pass rfl (dj := 7) rfl g3 ?_
      refine op_pass rfl (dj := 7) rfl g3 ?_
      refine op_pass rfl (dj := 7) rfl g3 ?_
      refine op_cons rfl (OpV.t (v_pick_t rfl g3 rfl) ?_)
      exact hJ2 _ () h _ (join_imp 5 rfl rfl (mod_cons (j := 12) rfl (fun _ _ h => h) mod_nil) .nil)
    · skip
      refine op_take rfl rfl (dj := 7) rfl g3 (OpV.t (v_move rfl) ?_)
      refine op_take rfl rfl (dj := 7) rfl g3 (OpV.t (v_move rfl) ?_)
      refine op_take rfl rfl (dj := 7) rfl g3 (OpV.t (v_lenS st9 rfl) ?_)
      refine op_take rfl rfl (dj := 7) rfl g3 (OpV.t (v_geq rfl rfl) ?_)
      refine op_cons rfl (OpV.t (v_pick_f rfl g3 rfl) ?_)
      exact hJ2 _ () h _ (join_imp 5 rfl rfl (mod_cons (j := 12) rfl (fun _ _ h => h) mod_nil) .nil)


theorem r04_white_w : ∀ {a_s : Str} {a_i : Int} {r : Int}, r04_white a_s a_i = some r → Ctr Tryd.prog 38 [isv (a_s), isv (a_i)] [] (fun R H => R = oneOf [isv (r)] ∧ H = []) := by
  intro a_s a_i r h
  unfold r04_white at h
  refine spec_intro Tryd.func38 rfl (by decide +kernel) (by rfl) fun w0 S0 hT => ?_
  refine w_seq ?_
  refine w_region ?_
  refine op_cons rfl (OpV.t (v_assign rfl) ?_)
  refine rl_nil ?_
  refine fin_nxt ?_
  refine w_seq ?_
  refine w_block ?_
  refine w_lp (ι := Int) (γ := Unit) (fun q1 g1 => [(1, isv (q1))]) (fun q1 g1 => []) h () (mod_cons (j := 1) rfl (fun _ _ h => h) mod_nil) .nil (fun L2 q1 g1 Q99 h hL2 eL2 rL2 => ?_)
  refine w_seq ?_
  refine w_seq ?_
  refine w_region ?_
  refine op_cons rfl (OpV.t (v_move rfl) ?_)
  refine op_cons rfl (OpV.t (v_move rfl) ?_)
  refine op_cons rfl (OpV.t (v_lenS st9 rfl) ?_)
  refine op_cons rfl (OpV.t (v_lss rfl rfl) ?_)
  refine rl_nil ?_
  refine fin_nxt ?_
  refine w_condM h rfl (fun _ h => ?_) (fun _ h => ?_)
  · skip
    refine w_skip ?_
    refine fin_nxt ?_
    refine w_block ?_
    refine w_block ?_
    refine w_seq ?_
    refine w_region ?_
    refine op_cons rfl (OpV.t (v_move rfl) ?_)
    refine op_cons rfl (OpV.t (v_move rfl) ?_)
    refine cal_inv h fun y51 hy51 h => ?_
    refine op_cons rfl (OpV.t (v_idxS y51 st9 rfl rfl hy51) ?_)
    refine op_cons rfl (OpV.t (v_eqA eq5 rfl rfl) ?_)
    refine op_cons rfl (OpV.t (v_move rfl) ?_)
    refine rl_j (ι := Bool) (γ := Unit) (fun q52 g52 => [(20, isv (q52))]) (fun q52 g52 => []) .nil h 5 rfl (fun q52 g52 h => ?_) (fun J53 h hJ53 => ?_)
    · skip
      refine op_cons rfl (OpV.t (v_move rfl) ?_)
      refine rl_j (ι := Bool) (γ := Unit) (fun q56 g56 => [(26, isv (q56))]) (fun q56 g56 => []) .nil h 5 rfl (fun q56 g56 h => ?_) (fun J57 h hJ57 => ?_)
      · skip
        refine op_cons rfl (OpV.t (v_move rfl) ?_)
        refine rl_j (ι := Bool) (γ := Unit) (fun q60 g60 => [(32, isv (q60))]) (fun q60 g60 => []) .nil h 5 rfl (fun q60 g60 h => ?_) (fun J61 h hJ61 => ?_)
        · skip
          refine op_cons rfl (OpV.t (v_assign rfl) ?_)
          refine rl_nil ?_
          refine fin_nxt ?_
          refine w_condM h rfl (fun _ h => ?_) (fun _ h => ?_)
          · skip
            refine w_region ?_
            refine op_cons rfl (OpV.t (v_move rfl) ?_)
            refine ck_inv h fun q64 h => ?_
            refine op_cons rfl (OpV.t (v_add rfl rfl q64) ?_)
            refine op_cons rfl (OpV.t (v_assign rfl) ?_)
            refine rl_nil ?_
            refine fin_block ?_
            refine fin_block ?_
            exact hL2 _ () h _ (join_imp 19 rfl rfl (mod_cons (j := 1) rfl (fun _ _ h => h) mod_nil) .nil)
          · skip
            refine w_seq ?_
            refine w_region ?_
            refine op_cons rfl (OpV.t (v_move rfl) ?_)
            refine op_cons rfl (OpV.t (v_move rfl) ?_)
            refine cal_inv h fun y65 hy65 h => ?_
            refine op_cons rfl (OpV.t (v_idxS y65 st9 rfl rfl hy65) ?_)
            refine op_cons rfl (OpV.t (v_eqA eq5 rfl rfl) ?_)
            refine op_cons rfl (OpV.t (v_move rfl) ?_)
            refine rl_j (ι := Bool) (γ := Unit) (fun q66 g66 => [(46, isv (q66))]) (fun q66 g66 => []) .nil h 6 rfl (fun q66 g66 h => ?_) (fun J67 h hJ67 => ?_)
            · skip
              refine op_cons rfl (OpV.t (v_assign rfl) ?_)
              refine rl_nil ?_
              refine fin_nxt ?_
              refine w_condM h rfl (fun _ h => ?_) (fun _ h => ?_)
              · skip
                refine w_seq ?_
                refine w_region ?_
                refine op_cons rfl (OpV.t (v_move rfl) ?_)
                refine ck_inv h fun q71 h => ?_
                refine op_cons rfl (OpV.t (v_add rfl rfl q71) ?_)
                refine op_cons rfl (OpV.t (v_assign rfl) ?_)
                refine rl_nil ?_
                refine fin_nxt ?_
                refine w_block ?_
                refine w_lp (ι := Int) (γ := Unit) (fun q72 g72 => [(1, isv (q72))]) (fun q72 g72 => []) h () (mod_cons (j := 1) rfl (fun _ _ h => h) mod_nil) .nil (fun L73 q72 g72 Q98 h hL73 eL73 rL73 => ?_)
                refine w_seq ?_
                refine w_seq ?_
                refine w_region ?_
                refine op_cons rfl (OpV.t (v_move rfl) ?_)
                refine op_cons rfl (OpV.t (v_move rfl) ?_)
                refine op_cons rfl (OpV.t (v_lenS st9 rfl) ?_)
                refine op_cons rfl (OpV.t (v_lss rfl rfl) ?_)
                refine op_cons rfl (OpV.t (v_move rfl) ?_)
                refine rl_j (ι := Bool) (γ := Unit) (fun q86 g86 => [(58, isv (q86))]) (fun q86 g86 => []) .nil h 5 rfl (fun q86 g86 h => ?_) (fun J87 h hJ87 => ?_)
                · skip
                  refine rl_nil ?_
                  refine fin_nxt ?_
                  refine w_condM h rfl (fun _ h => ?_) (fun _ h => ?_)
                  · skip
                    refine w_skip ?_
                    refine fin_nxt ?_
                    refine w_block ?_
                    refine w_seq ?_
                    refine w_seq ?_
                    refine w_region ?_
                    refine op_cons rfl (OpV.t (v_move rfl) ?_)
                    refine op_cons rfl (OpV.t (v_move rfl) ?_)
                    refine cal_inv h fun y90 hy90 h => ?_
                    refine op_cons rfl (OpV.t (v_idxS y90 st9 rfl rfl hy90) ?_)
                    refine op_cons rfl (OpV.t (v_eqA eq5 rfl rfl) ?_)
                    refine op_cons rfl (OpV.t (v_move rfl) ?_)
                    refine rl_j (ι := Bool) (γ := Unit) (fun q91 g91 => [(69, isv (q91))]) (fun q91 g91 => []) .nil h 6 rfl (fun q91 g91 h => ?_) (fun J92 h hJ92 => ?_)
                    · skip
                      refine rl_nil ?_
                      refine fin_nxt ?_
                      refine w_condM h rfl (fun _ h => ?_) (fun _ h => ?_)
                      · skip
                        refine w_seq ?_
                        refine w_region ?_
                        refine op_cons rfl (OpV.t (v_move rfl) ?_)
                        refine ck_inv h fun q96 h => ?_
                        refine op_cons rfl (OpV.t (v_add rfl rfl q96) ?_)
                        refine op_cons rfl (OpV.t (v_assign rfl) ?_)
                        refine rl_nil ?_
                        refine fin_nxt ?_
                        refine w_exit ?_
                        refine exi_nxt ?_
                        refine exi_pass rfl ?_
                        refine eL73 _ _ ?_
                        refine exi_block ?_
                        refine fin_block ?_
                        refine fin_block ?_
                        exact hL2 _ () h _ (join_imp 42 rfl rfl (mod_cons (j := 1) rfl (fun _ _ h => h) mod_nil) .nil)
                      · skip
                        refine w_skip ?_
                        refine fin_nxt ?_
                        refine w_region ?_
                        refine op_cons rfl (OpV.t (v_move rfl) ?_)
                        refine ck_inv h fun q97 h => ?_
                        refine op_cons rfl (OpV.t (v_add rfl rfl q97) ?_)
                        refine op_cons rfl (OpV.t (v_assign rfl) ?_)
                        refine rl_nil ?_
                        refine fin_block ?_
                        exact hL73 _ () h _ (join_imp 16 rfl rfl (mod_cons (j := 1) rfl (fun _ _ h => h) mod_nil) .nil)
                    · skip
                      refine rl_condM (j := 63) h rfl (fun g93 h => ?_) (fun g93 h => ?_)
                      · skip
                        refine op_take rfl rfl (dj := 63) rfl g93 (OpV.t (v_move rfl) ?_)
                        refine op_take rfl rfl (dj := 63) rfl g93 (OpV.t (v_move rfl) ?_)
                        refine ck_inv h fun q94 h => ?_
                        refine op_take rfl rfl (dj := 63) rfl g93 (OpV.t (v_add rfl rfl q94) ?_)
                        refine cal_inv h fun y95 hy95 h => ?_
                        refine op_take rfl rfl (dj := 63) rfl g93 (t_call (r04_at_w hy95) hT (.same rfl (.same rfl .nil)) .nil (fun R H' hR => ?_))
                        obtain ⟨rfl, rfl⟩ := hR
                        refine op_take rfl rfl (dj := 63) rfl g93 (OpV.t (v_eqA eq5 rfl rfl) ?_)
                        refine op_cons rfl (OpV.t (v_pick_t rfl g93 rfl) ?_)
                        exact hJ92 _ () h _ (join_imp 6 rfl rfl (mod_cons (j := 69) rfl (fun _ _ h => h) mod_nil) .nil)
                      · skip
                        refine op_pass rfl (dj := 63) rfl g93 ?_
                        refine op_pass rfl (dj := 63) rfl g93 ?_
                        refine op_pass rfl (dj := 63) rfl g93 ?_
                        refine op_pass rfl (dj := 63) rfl g93 ?_
                        refine op_pass rfl (dj := 63) rfl g93 ?_
                        refine op_cons rfl (OpV.t (v_pick_f rfl g93 rfl) ?_)
                        exact hJ92 _ () h _ (join_imp 6 rfl rfl (mod_cons (j := 69) rfl (fun _ _ h => h) mod_nil) .nil)
                  · skip
                    refine w_exit ?_
                    refine exi_nxt ?_
                    refine eL73 _ _ ?_
                    refine exi_block ?_
                    refine fin_block ?_
                    refine fin_block ?_
                    exact hL2 _ () h _ (join_imp 33 rfl rfl (mod_cons (j := 1) rfl (fun _ _ h => h) mod_nil) .nil)
                · skip
                  refine rl_condM (j := 53) h rfl (fun g88 h => ?_) (fun g88 h => ?_)
                  · skip
                    refine op_take rfl rfl (dj := 53) rfl g88 (OpV.t (v_move rfl) ?_)
                    refine op_take rfl rfl (dj := 53) rfl g88 (OpV.t (v_move rfl) ?_)
                    refine cal_inv h fun y89 hy89 h => ?_
                    refine op_take rfl rfl (dj := 53) rfl g88 (OpV.t (v_idxS y89 st9 rfl rfl hy89) ?_)
                    refine op_take rfl rfl (dj := 53) rfl g88 (OpV.t (v_neA eq5 rfl rfl) ?_)
                    refine op_cons rfl (OpV.t (v_pick_t rfl g88 rfl) ?_)
                    exact hJ87 _ () h _ (join_imp 5 rfl rfl (mod_cons (j := 58) rfl (fun _ _ h => h) mod_nil) .nil)
                  · skip
                    refine op_pass rfl (dj := 53) rfl g88 ?_
                    refine op_pass rfl (dj := 53) rfl g88 ?_
                    refine op_pass rfl (dj := 53) rfl g88 ?_
                    refine op_pass rfl (dj := 53) rfl g88 ?_
                    refine op_cons rfl (OpV.t (v_pick_f rfl g88 rfl) ?_)
                    exact hJ87 _ () h _ (join_imp 5 rfl rfl (mod_cons (j := 58) rfl (fun _ _ h => h) mod_nil) .nil)
              · skip
                refine w_seq ?_
                refine w_region ?_
                refine op_cons rfl (OpV.t (v_move rfl) ?_)
                refine op_cons rfl (OpV.t (v_assign rfl) ?_)
                refine rl_nil ?_
                refine fin_nxt ?_
                refine w_ret ?_
                refine ret_block ?_
                refine ret_block ?_
                refine rL2 _ ?_
                refine ret_block ?_
                refine ret_nxt ?_
                refine ret_post (.tmp rfl .nil) .nil ?_
                obtain rfl := Option.some.inj h
                exact ⟨rfl, rfl⟩
            · skip
              refine rl_condM (j := 40) h rfl (fun g68 h => ?_) (fun g68 h => ?_)
              · skip
                refine op_take rfl rfl (dj := 40) rfl g68 (OpV.t (v_move rfl) ?_)
                refine op_take rfl rfl (dj := 40) rfl g68 (OpV.t (v_move rfl) ?_)
                refine ck_inv h fun q69 h => ?_
                refine op_take rfl rfl (dj := 40) rfl g68 (OpV.t (v_add rfl rfl q69) ?_)
                refine cal_inv h fun y70 hy70 h => ?_
                refine op_take rfl rfl (dj := 40) rfl g68 (t_call (r04_at_w hy70) hT (.same rfl (.same rfl .nil)) .nil (fun R H' hR => ?_))
                obtain ⟨rfl, rfl⟩ := hR
                refine op_take rfl rfl (dj := 40) rfl g68 (OpV.t (v_eqA eq5 rfl rfl) ?_)
                refine op_cons rfl (OpV.t (v_pick_t rfl g68 rfl) ?_)
                exact hJ67 _ () h _ (join_imp 6 rfl rfl (mod_cons (j := 46) rfl (fun _ _ h => h) mod_nil) .nil)
              · skip
                refine op_pass rfl (dj := 40) rfl g68 ?_
                refine op_pass rfl (dj := 40) rfl g68 ?_
                refine op_pass rfl (dj := 40) rfl g68 ?_
                refine op_pass rfl (dj := 40) rfl g68 ?_
                refine op_pass rfl (dj := 40) rfl g68 ?_
                refine op_cons rfl (OpV.t (v_pick_f rfl g68 rfl) ?_)
                exact hJ67 _ () h _ (join_imp 6 rfl rfl (mod_cons (j := 46) rfl (fun _ _ h => h) mod_nil) .nil)
        · skip
          refine rl_condM (j := 27) h rfl (fun g62 h => ?_) (fun g62 h => ?_)
          · skip
            refine op_pass rfl (dj := 27) rfl g62 ?_
            refine op_pass rfl (dj := 27) rfl g62 ?_
            refine op_pass rfl (dj := 27) rfl g62 ?_
            refine op_pass rfl (dj := 27) rfl g62 ?_
            refine op_cons rfl (OpV.t (v_pick_t rfl g62 rfl) ?_)
            exact hJ61 _ () h _ (join_imp 5 rfl rfl (mod_cons (j := 32) rfl (fun _ _ h => h) mod_nil) .nil)
          · skip
            refine op_take rfl rfl (dj := 27) rfl g62 (OpV.t (v_move rfl) ?_)
            refine op_take rfl rfl (dj := 27) rfl g62 (OpV.t (v_move rfl) ?_)
            refine cal_inv h fun y63 hy63 h => ?_
            refine op_take rfl rfl (dj := 27) rfl g62 (OpV.t (v_idxS y63 st9 rfl rfl hy63) ?_)
            refine op_take rfl rfl (dj := 27) rfl g62 (OpV.t (v_eqA eq5 rfl rfl) ?_)
            refine op_cons rfl (OpV.t (v_pick_f rfl g62 rfl) ?_)
            exact hJ61 _ () h _ (join_imp 5 rfl rfl (mod_cons (j := 32) rfl (fun _ _ h => h) mod_nil) .nil)
      · skip
        refine rl_condM (j := 21) h rfl (fun g58 h => ?_) (fun g58 h => ?_)
        · skip
          refine op_pass rfl (dj := 21) rfl g58 ?_
          refine op_pass rfl (dj := 21) rfl g58 ?_
          refine op_pass rfl (dj := 21) rfl g58 ?_
          refine op_pass rfl (dj := 21) rfl g58 ?_
          refine op_cons rfl (OpV.t (v_pick_t rfl g58 rfl) ?_)
          exact hJ57 _ () h _ (join_imp 5 rfl rfl (mod_cons (j := 26) rfl (fun _ _ h => h) mod_nil) .nil)
        · skip
          refine op_take rfl rfl (dj := 21) rfl g58 (OpV.t (v_move rfl) ?_)
          refine op_take rfl rfl (dj := 21) rfl g58 (OpV.t (v_move rfl) ?_)
          refine cal_inv h fun y59 hy59 h => ?_
          refine op_take rfl rfl (dj := 21) rfl g58 (OpV.t (v_idxS y59 st9 rfl rfl hy59) ?_)
          refine op_take rfl rfl (dj := 21) rfl g58 (OpV.t (v_eqA eq5 rfl rfl) ?_)
          refine op_cons rfl (OpV.t (v_pick_f rfl g58 rfl) ?_)
          exact hJ57 _ () h _ (join_imp 5 rfl rfl (mod_cons (j := 26) rfl (fun _ _ h => h) mod_nil) .nil)
    · skip
      refine rl_condM (j := 15) h rfl (fun g54 h => ?_) (fun g54 h => ?_)
      · skip
        refine op_pass rfl (dj := 15) rfl g54 ?_
        refine op_pass rfl (dj := 15) rfl g54 ?_
        refine op_pass rfl (dj := 15) rfl g54 ?_
        refine op_pass rfl (dj := 15) rfl g54 ?_
        refine op_cons rfl (OpV.t (v_pick_t rfl g54 rfl) ?_)
        exact hJ53 _ () h _ (join_imp 5 rfl rfl (mod_cons (j := 20) rfl (fun _ _ h => h) mod_nil) .nil)
      · skip
        refine op_take rfl rfl (dj := 15) rfl g54 (OpV.t (v_move rfl) ?_)
        refine op_take rfl rfl (dj := 15) rfl g54 (OpV.t (v_move rfl) ?_)
        refine cal_inv h fun y55 hy55 h => ?_
        refine op_take rfl rfl (dj := 15) rfl g54 (OpV.t (v_idxS y55 st9 rfl rfl hy55) ?_)
        refine op_take rfl rfl (dj := 15) rfl g54 (OpV.t (v_eqA eq5 rfl rfl) ?_)
        refine op_cons rfl (OpV.t (v_pick_f rfl g54 rfl) ?_)
        exact hJ53 _ () h _ (join_imp 5 rfl rfl (mod_cons (j := 20) rfl (fun _ _ h => h) mod_nil) .nil)
  · skip
    refine w_exit ?_
    refine exi_nxt ?_
    refine eL2 _ _ ?_
    refine exi_block ?_
    refine fin_nxt ?_
    refine w_seq ?_
    refine w_region ?_
    refine op_cons rfl (OpV.t (v_move rfl) ?_)
    refine op_cons rfl (OpV.t (v_assign rfl) ?_)
    refine rl_nil ?_
    refine fin_nxt ?_
    refine w_ret ?_
    refine ret_post (.tmp rfl .nil) .nil ?_
    obtain rfl := Option.some.inj h
    exact ⟨rfl, rfl⟩


theorem r04_letter_w : ∀ {a_c : UInt8} {r : Bool}, r04_letter a_c = some r → Ctr Tryd.prog 52 [isv (a_c)] [] (fun R H => R = oneOf [isv (r)] ∧ H = []) := by
  intro a_c r h
  unfold r04_letter at h
  refine spec_intro Tryd.func52 rfl (by decide +kernel) (by rfl) fun w0 S0 hT => ?_
  refine w_seq ?_
  refine w_region ?_
  refine op_cons rfl (OpV.t (v_assign rfl) ?_)
  refine rl_nil ?_
  refine fin_nxt ?_
  refine w_seq ?_
  refine w_region ?_
  refine op_cons rfl (OpV.t (v_move rfl) ?_)
  refine op_cons rfl (OpV.t (v_geq8 rfl rfl) ?_)
  refine op_cons rfl (OpV.t (v_move rfl) ?_)
  refine rl_j (ι := Bool) (γ := Unit) (fun q1 g1 => [(8, isv (q1))]) (fun q1 g1 => []) .nil h 3 rfl (fun q1 g1 h => ?_) (fun J2 h hJ2 => ?_)
  · skip
    refine op_cons rfl (OpV.t (v_move rfl) ?_)
    refine rl_j (ι := Bool) (γ := Unit) (fun q4 g4 => [(16, isv (q4))]) (fun q4 g4 => []) .nil h 7 rfl (fun q4 g4 h => ?_) (fun J5 h hJ5 => ?_)
    · skip
      refine op_cons rfl (OpV.t (v_assign rfl) ?_)
      refine rl_nil ?_
      refine fin_nxt ?_
      refine w_ret ?_
      refine ret_post (.tmp rfl .nil) .nil ?_
      obtain rfl := Option.some.inj h
      exact ⟨rfl, rfl⟩
    · skip
      refine rl_condM (j := 9) h rfl (fun g6 h => ?_) (fun g6 h => ?_)
      · skip
        refine op_pass rfl (dj := 9) rfl g6 ?_
        refine op_pass rfl (dj := 9) rfl g6 ?_
        refine op_pass rfl (dj := 9) rfl g6 ?_
        refine op_passU rfl (dj := 12) rfl ?_
        refine op_passU rfl (dj := 12) rfl ?_
        refine op_pass rfl (dj := 9) rfl g6 ?_
        refine op_cons rfl (OpV.t (v_pick_t rfl g6 rfl) ?_)
        exact hJ5 _ () h _ (join_imp 7 rfl rfl (mod_cons (j := 16) rfl (fun _ _ h => h) mod_nil) .nil)
      · skip
        refine op_take rfl rfl (dj := 9) rfl g6 (OpV.t (v_move rfl) ?_)
        refine op_take rfl rfl (dj := 9) rfl g6 (OpV.t (v_geq8 rfl rfl) ?_)
        refine op_take rfl rfl (dj := 9) rfl g6 (OpV.t (v_move rfl) ?_)
        refine rl_j (ι := Bool) (γ := Unit) (fun q7 g7 => [(15, isv (q7))]) (fun q7 g7 => []) .nil h 3 rfl (fun q7 g7 h => ?_) (fun J8 h hJ8 => ?_)
        · skip
          refine op_cons rfl (OpV.t (v_pick_f rfl g6 rfl) ?_)
          exact hJ5 _ () h _ (join_imp 5 rfl rfl (mod_cons (j := 16) rfl (fun _ _ h => h) mod_nil) .nil)
        · skip
          refine rl_condM (j := 12) h rfl (fun g9 h => ?_) (fun g9 h => ?_)
          · skip
            refine op_take rfl rfl (dj := 12) rfl g9 (OpV.t (v_move rfl) ?_)
            refine op_take rfl rfl (dj := 12) rfl g9 (OpV.t (v_leq8 rfl rfl) ?_)
            refine op_take rfl rfl (dj := 9) rfl g6 (OpV.t (v_pick_t rfl g9 rfl) ?_)
            exact hJ8 _ () h _ (join_imp 3 rfl rfl (mod_cons (j := 15) rfl (fun _ _ h => h) mod_nil) .nil)
          · skip
            refine op_pass rfl (dj := 12) rfl g9 ?_
            refine op_pass rfl (dj := 12) rfl g9 ?_
            refine op_take rfl rfl (dj := 9) rfl g6 (OpV.t (v_pick_f rfl g9 rfl) ?_)
            exact hJ8 _ () h _ (join_imp 3 rfl rfl (mod_cons (j := 15) rfl (fun _ _ h => h) mod_nil) .nil)
  · skip
    refine rl_condM (j := 5) h rfl (fun g3 h => ?_) (fun g3 h => ?_)
    · skip
      refine op_take rfl rfl (dj := 5) rfl g3 (OpV.t (v_move rfl) ?_)
      refine op_take rfl rfl (dj := 5) rfl g3 (OpV.t (v_leq8 rfl rfl) ?_)
      refine op_cons rfl (OpV.t (v_pick_t rfl g3 rfl) ?_)
      exact hJ2 _ () h _ (join_imp 3 rfl rfl (mod_cons (j := 8) rfl (fun _ _ h => h) mod_nil) .nil)
    · skip
      refine op_pass rfl (dj := 5) rfl g3 ?_
      refine op_pass rfl (dj := 5) rfl g3 ?_
      refine op_cons rfl (OpV.t (v_pick_f rfl g3 rfl) ?_)
      exact hJ2 _ () h _ (join_imp 3 rfl rfl (mod_cons (j := 8) rfl (fun _ _ h => h) mod_nil) .nil)


theorem r04_digit_w : ∀ {a_c : UInt8} {r : Bool}, r04_digit a_c = some r → Ctr Tryd.prog 55 [isv (a_c)] [] (fun R H => R = oneOf [isv (r)] ∧ H = []) := by
  intro a_c r h
  unfold r04_digit at h
  refine spec_intro Tryd.func55 rfl (by decide +kernel) (by rfl) fun w0 S0 hT => ?_
  refine w_seq ?_
  refine w_region ?_
  refine op_cons rfl (OpV.t (v_assign rfl) ?_)
  refine rl_nil ?_
  refine fin_nxt ?_
  refine w_seq ?_
  refine w_region ?_
  refine op_cons rfl (OpV.t (v_move rfl) ?_)
  refine op_cons rfl (OpV.t (v_geq8 rfl rfl) ?_)
  refine op_cons rfl (OpV.t (v_move rfl) ?_)
  refine rl_j (ι := Bool) (γ := Unit) (fun q1 g1 => [(8, isv (q1))]) (fun q1 g1 => []) .nil h 3 rfl (fun q1 g1 h => ?_) (fun J2 h hJ2 => ?_)
  · skip
    refine op_cons rfl (OpV.t (v_assign rfl) ?_)
    refine rl_nil ?_
    refine fin_nxt ?_
    refine w_ret ?_
    refine ret_post (.tmp rfl .nil) .nil ?_
    obtain rfl := Option.some.inj h
    exact ⟨rfl, rfl⟩
  · skip
    refine rl_condM (j := 5) h rfl (fun g3 h => ?_) (fun g3 h => ?_)
    · skip
      refine op_take rfl rfl (dj := 5) rfl g3 (OpV.t (v_move rfl) ?_)
      refine op_take rfl rfl (dj := 5) rfl g3 (OpV.t (v_leq8 rfl rfl) ?_)
      refine op_cons rfl (OpV.t (v_pick_t rfl g3 rfl) ?_)
      exact hJ2 _ () h _ (join_imp 3 rfl rfl (mod_cons (j := 8) rfl (fun _ _ h => h) mod_nil) .nil)
    · skip
      refine op_pass rfl (dj := 5) rfl g3 ?_
      refine op_pass rfl (dj := 5) rfl g3 ?_
      refine op_cons rfl (OpV.t (v_pick_f rfl g3 rfl) ?_)
      exact hJ2 _ () h _ (join_imp 3 rfl rfl (mod_cons (j := 8) rfl (fun _ _ h => h) mod_nil) .nil)


theorem r04_name_w : ∀ {a_s : Str} {a_i : Int} {r : Int}, r04_name a_s a_i = some r → Ctr Tryd.prog 53 [isv (a_s), isv (a_i)] [] (fun R H => R = oneOf [isv (r)] ∧ H = []) := by
  intro a_s a_i r h
  unfold r04_name at h
  refine spec_intro Tryd.func53 rfl (by decide +kernel) (by rfl) fun w0 S0 hT => ?_
  refine w_seq ?_
  refine w_region ?_
  refine op_cons rfl (OpV.t (v_assign rfl) ?_)
  refine rl_nil ?_
  refine fin_nxt ?_
  refine w_seq ?_
  refine w_region ?_
  refine op_cons rfl (OpV.t (v_move rfl) ?_)
  refine op_cons rfl (OpV.t (v_assign rfl) ?_)
  refine rl_nil ?_
  refine fin_nxt ?_
  refine w_seq ?_
  refine w_block ?_
  refine w_lp (ι := Int) (γ := Unit) (fun q1 g1 => [(1, isv (q1))]) (fun q1 g1 => []) h () (mod_cons (j := 1) rfl (fun _ _ h => h) mod_nil) .nil (fun L2 q1 g1 Q55 h hL2 eL2 rL2 => ?_)
  refine w_seq ?_
  refine w_seq ?_
  refine w_region ?_
  refine op_cons rfl (OpV.t (v_move rfl) ?_)
  refine op_cons rfl (OpV.t (v_move rfl) ?_)
  refine op_cons rfl (OpV.t (v_lenS st9 rfl) ?_)
  refine op_cons rfl (OpV.t (v_lss rfl rfl) ?_)
  refine op_cons rfl (OpV.t (v_move rfl) ?_)
  refine rl_j (ι := Bool) (γ := Unit) (fun q29 g29 => [(35, isv (q29))]) (fun q29 g29 => []) .nil h 24 rfl (fun q29 g29 h => ?_) (fun J30 h hJ30 => ?_)
  · skip
    refine rl_nil ?_
    refine fin_nxt ?_
    refine w_condM h rfl (fun _ h => ?_) (fun _ h => ?_)
    · skip
      refine w_skip ?_
      refine fin_nxt ?_
      refine w_block ?_
      refine w_region ?_
      refine op_cons rfl (OpV.t (v_move rfl) ?_)
      refine ck_inv h fun q48 h => ?_
      refine op_cons rfl (OpV.t (v_add rfl rfl q48) ?_)
      refine op_cons rfl (OpV.t (v_assign rfl) ?_)
      refine rl_nil ?_
      refine fin_block ?_
      exact hL2 _ () h _ (join_imp 10 rfl rfl (mod_cons (j := 1) rfl (fun _ _ h => h) mod_nil) .nil)
    · skip
      refine w_exit ?_
      refine exi_nxt ?_
      refine eL2 _ _ ?_
      refine exi_block ?_
      refine fin_nxt ?_
      refine w_seq ?_
      refine w_seq ?_
      refine w_region ?_
      refine op_cons rfl (OpV.t (v_move rfl) ?_)
      refine op_cons rfl (OpV.t (v_move rfl) ?_)
      refine ck_inv h fun q49 h => ?_
      refine op_cons rfl (OpV.t (v_sub rfl rfl q49) ?_)
      refine cal_inv h fun y50 hy50 h => ?_
      refine op_cons rfl (OpV.t (v_idxS y50 st9 rfl rfl hy50) ?_)
      refine op_cons rfl (OpV.t (v_eqA eq5 rfl rfl) ?_)
      refine op_cons rfl (OpV.t (v_move rfl) ?_)
      refine rl_j (ι := Bool) (γ := Unit) (fun q51 g51 => [(48, isv (q51))]) (fun q51 g51 => []) .nil h 5 rfl (fun q51 g51 h => ?_) (fun J52 h hJ52 => ?_)
      · skip
        refine rl_nil ?_
        refine fin_nxt ?_
        refine w_condM h rfl (fun _ h => ?_) (fun _ h => ?_)
        · skip
          refine w_seq ?_
          refine w_region ?_
          refine op_cons rfl (OpV.t (v_assign rfl) ?_)
          refine rl_nil ?_
          refine fin_nxt ?_
          refine w_ret ?_
          refine ret_nxt ?_
          refine ret_post (.tmp rfl .nil) .nil ?_
          obtain rfl := Option.some.inj h
          exact ⟨rfl, rfl⟩
        · skip
          refine w_skip ?_
          refine fin_nxt ?_
          refine w_seq ?_
          refine w_region ?_
          refine op_cons rfl (OpV.t (v_move rfl) ?_)
          refine op_cons rfl (OpV.t (v_assign rfl) ?_)
          refine rl_nil ?_
          refine fin_nxt ?_
          refine w_ret ?_
          refine ret_post (.tmp rfl .nil) .nil ?_
          obtain rfl := Option.some.inj h
          exact ⟨rfl, rfl⟩
      · skip
        refine rl_condM (j := 43) h rfl (fun g53 h => ?_) (fun g53 h => ?_)
        · skip
          refine op_pass rfl (dj := 43) rfl g53 ?_
          refine op_pass rfl (dj := 43) rfl g53 ?_
          refine op_pass rfl (dj := 43) rfl g53 ?_
          refine op_pass rfl (dj := 43) rfl g53 ?_
          refine op_cons rfl (OpV.t (v_pick_t rfl g53 rfl) ?_)
          exact hJ52 _ () h _ (join_imp 5 rfl rfl (mod_cons (j := 48) rfl (fun _ _ h => h) mod_nil) .nil)
        · skip
          refine op_take rfl rfl (dj := 43) rfl g53 (OpV.t (v_move rfl) ?_)
          refine op_take rfl rfl (dj := 43) rfl g53 (OpV.t (v_move rfl) ?_)
          refine ck_inv h fun q54 h => ?_
          refine op_take rfl rfl (dj := 43) rfl g53 (OpV.t (v_sub rfl rfl q54) ?_)
          refine op_take rfl rfl (dj := 43) rfl g53 (OpV.t (v_gtr rfl rfl) ?_)
          refine op_cons rfl (OpV.t (v_pick_f rfl g53 rfl) ?_)
          exact hJ52 _ () h _ (join_imp 5 rfl rfl (mod_cons (j := 48) rfl (fun _ _ h => h) mod_nil) .nil)
  · skip
    refine rl_condM (j := 11) h rfl (fun g31 h => ?_) (fun g31 h => ?_)
    · skip
      refine op_take rfl rfl (dj := 11) rfl g31 (OpV.t (v_move rfl) ?_)
      refine op_take rfl rfl (dj := 11) rfl g31 (OpV.t (v_move rfl) ?_)
      refine cal_inv h fun y32 hy32 h => ?_
      refine op_take rfl rfl (dj := 11) rfl g31 (OpV.t (v_idxS y32 st9 rfl rfl hy32) ?_)
      refine cal_inv h fun y33 hy33 h => ?_
      refine op_take rfl rfl (dj := 11) rfl g31 (t_call (r04_letter_w hy33) hT (.same rfl .nil) .nil (fun R H' hR => ?_))
      obtain ⟨rfl, rfl⟩ := hR
      refine op_take rfl rfl (dj := 11) rfl g31 (OpV.t (v_move rfl) ?_)
      refine rl_j (ι := Bool) (γ := Unit) (fun q34 g34 => [(21, isv (q34))]) (fun q34 g34 => []) .nil h 5 rfl (fun q34 g34 h => ?_) (fun J35 h hJ35 => ?_)
      · skip
        refine op_take rfl rfl (dj := 11) rfl g31 (OpV.t (v_move rfl) ?_)
        refine rl_j (ι := Bool) (γ := Unit) (fun q39 g39 => [(34, isv (q39))]) (fun q39 g39 => []) .nil h 12 rfl (fun q39 g39 h => ?_) (fun J40 h hJ40 => ?_)
        · skip
          refine op_cons rfl (OpV.t (v_pick_t rfl g31 rfl) ?_)
          exact hJ30 _ () h _ (join_imp 9 rfl rfl (mod_cons (j := 35) rfl (fun _ _ h => h) mod_nil) .nil)
        · skip
          refine rl_condM (j := 22) h rfl (fun g41 h => ?_) (fun g41 h => ?_)
          · skip
            refine op_pass rfl (dj := 22) rfl g41 ?_
            refine op_pass rfl (dj := 22) rfl g41 ?_
            refine op_pass rfl (dj := 22) rfl g41 ?_
            refine op_pass rfl (dj := 22) rfl g41 ?_
            refine op_pass rfl (dj := 22) rfl g41 ?_
            refine op_passU rfl (dj := 27) rfl ?_
            refine op_passU rfl (dj := 27) rfl ?_
            refine op_passU rfl (dj := 27) rfl ?_
            refine op_passU rfl (dj := 27) rfl ?_
            refine op_passU rfl (dj := 27) rfl ?_
            refine op_pass rfl (dj := 22) rfl g41 ?_
            refine op_take rfl rfl (dj := 11) rfl g31 (OpV.t (v_pick_t rfl g41 rfl) ?_)
            exact hJ40 _ () h _ (join_imp 12 rfl rfl (mod_cons (j := 34) rfl (fun _ _ h => h) mod_nil) .nil)
          · skip
            refine op_take rfl rfl (dj := 22) rfl g41 (OpV.t (v_move rfl) ?_)
            refine op_take rfl rfl (dj := 22) rfl g41 (OpV.t (v_move rfl) ?_)
            refine cal_inv h fun y42 hy42 h => ?_
            refine op_take rfl rfl (dj := 22) rfl g41 (OpV.t (v_idxS y42 st9 rfl rfl hy42) ?_)
            refine op_take rfl rfl (dj := 22) rfl g41 (OpV.t (v_eqA eq5 rfl rfl) ?_)
            refine op_take rfl rfl (dj := 22) rfl g41 (OpV.t (v_move rfl) ?_)
            refine rl_j (ι := Bool) (γ := Unit) (fun q43 g43 => [(33, isv (q43))]) (fun q43 g43 => []) .nil h 6 rfl (fun q43 g43 h => ?_) (fun J44 h hJ44 => ?_)
            · skip
              refine op_take rfl rfl (dj := 11) rfl g31 (OpV.t (v_pick_f rfl g41 rfl) ?_)
              exact hJ40 _ () h _ (join_imp 7 rfl rfl (mod_cons (j := 34) rfl (fun _ _ h => h) mod_nil) .nil)
            · skip
              refine rl_condM (j := 27) h rfl (fun g45 h => ?_) (fun g45 h => ?_)
              · skip
                refine op_take rfl rfl (dj := 27) rfl g45 (OpV.t (v_move rfl) ?_)
                refine op_take rfl rfl (dj := 27) rfl g45 (OpV.t (v_move rfl) ?_)
                refine ck_inv h fun q46 h => ?_
                refine op_take rfl rfl (dj := 27) rfl g45 (OpV.t (v_add rfl rfl q46) ?_)
                refine cal_inv h fun y47 hy47 h => ?_
                refine op_take rfl rfl (dj := 27) rfl g45 (t_call (r04_at_w hy47) hT (.same rfl (.same rfl .nil)) .nil (fun R H' hR => ?_))
                obtain ⟨rfl, rfl⟩ := hR
                refine op_take rfl rfl (dj := 27) rfl g45 (OpV.t (v_neA eq5 rfl rfl) ?_)
                refine op_take rfl rfl (dj := 22) rfl g41 (OpV.t (v_pick_t rfl g45 rfl) ?_)
                exact hJ44 _ () h _ (join_imp 6 rfl rfl (mod_cons (j := 33) rfl (fun _ _ h => h) mod_nil) .nil)
              · skip
                refine op_pass rfl (dj := 27) rfl g45 ?_
                refine op_pass rfl (dj := 27) rfl g45 ?_
                refine op_pass rfl (dj := 27) rfl g45 ?_
                refine op_pass rfl (dj := 27) rfl g45 ?_
                refine op_pass rfl (dj := 27) rfl g45 ?_
                refine op_take rfl rfl (dj := 22) rfl g41 (OpV.t (v_pick_f rfl g45 rfl) ?_)
                exact hJ44 _ () h _ (join_imp 6 rfl rfl (mod_cons (j := 33) rfl (fun _ _ h => h) mod_nil) .nil)
      · skip
        refine rl_condM (j := 16) h rfl (fun g36 h => ?_) (fun g36 h => ?_)
        · skip
          refine op_pass rfl (dj := 16) rfl g36 ?_
          refine op_pass rfl (dj := 16) rfl g36 ?_
          refine op_pass rfl (dj := 16) rfl g36 ?_
          refine op_pass rfl (dj := 16) rfl g36 ?_
          refine op_take rfl rfl (dj := 11) rfl g31 (OpV.t (v_pick_t rfl g36 rfl) ?_)
          exact hJ35 _ () h _ (join_imp 5 rfl rfl (mod_cons (j := 21) rfl (fun _ _ h => h) mod_nil) .nil)
        · skip
          refine op_take rfl rfl (dj := 16) rfl g36 (OpV.t (v_move rfl) ?_)
          refine op_take rfl rfl (dj := 16) rfl g36 (OpV.t (v_move rfl) ?_)
          refine cal_inv h fun y37 hy37 h => ?_
          refine op_take rfl rfl (dj := 16) rfl g36 (OpV.t (v_idxS y37 st9 rfl rfl hy37) ?_)
          refine cal_inv h fun y38 hy38 h => ?_
          refine op_take rfl rfl (dj := 16) rfl g36 (t_call (r04_digit_w hy38) hT (.same rfl .nil) .nil (fun R H' hR => ?_))
          obtain ⟨rfl, rfl⟩ := hR
          refine op_take rfl rfl (dj := 11) rfl g31 (OpV.t (v_pick_f rfl g36 rfl) ?_)
          exact hJ35 _ () h _ (join_imp 5 rfl rfl (mod_cons (j := 21) rfl (fun _ _ h => h) mod_nil) .nil)
    · skip
      refine op_pass rfl (dj := 11) rfl g31 ?_
      refine op_pass rfl (dj := 11) rfl g31 ?_
      refine op_pass rfl (dj := 11) rfl g31 ?_
      refine op_pass rfl (dj := 11) rfl g31 ?_
      refine op_pass rfl (dj := 11) rfl g31 ?_
      refine op_passU rfl (dj := 16) rfl ?_
      refine op_passU rfl (dj := 16) rfl ?_
      refine op_passU rfl (dj := 16) rfl ?_
      refine op_passU rfl (dj := 16) rfl ?_
      refine op_pass rfl (dj := 11) rfl g31 ?_
      refine op_pass rfl (dj := 11) rfl g31 ?_
      refine op_passU rfl (dj := 22) rfl ?_
      refine op_passU rfl (dj := 22) rfl ?_
      refine op_passU rfl (dj := 22) rfl ?_
      refine op_passU rfl (dj := 22) rfl ?_
      refine op_passU rfl (dj := 22) rfl ?_
      refine op_passU rfl (dj := 27) rfl ?_
      refine op_passU rfl (dj := 27) rfl ?_
      refine op_passU rfl (dj := 27) rfl ?_
      refine op_passU rfl (dj := 27) rfl ?_
      refine op_passU rfl (dj := 27) rfl ?_
      refine op_passU rfl (dj := 22) rfl ?_
      refine op_pass rfl (dj := 11) rfl g31 ?_
      refine op_cons rfl (OpV.t (v_pick_f rfl g31 rfl) ?_)
      exact hJ30 _ () h _ (join_imp 24 rfl rfl (mod_cons (j := 35) rfl (fun _ _ h => h) mod_nil) .nil)


theorem r04_words_w : ∀  {r : (List Str)}, r04_words  = some r → Ctr Tryd.prog 68 [] [] (fun R H => R = oneOf [isv (r)] ∧ H = []) := by
  intro  r h
  unfold r04_words at h
  refine spec_intro Tryd.func68 rfl (by decide +kernel) (by rfl) fun w0 S0 hT => ?_
  refine w_seq ?_
  refine w_region ?_
  refine op_cons rfl (OpV.t (v_assign rfl) ?_)
  refine rl_nil ?_
  refine fin_nxt ?_
  refine w_seq ?_
  refine w_region ?_
  refine op_cons rfl (t_buildSlice (l := ([(Str.mk [68, 69, 70, 73, 78, 73, 84, 73, 79, 78, 83]), (Str.mk [69, 88, 80, 76, 73, 67, 73, 84]), (Str.mk [73, 77, 80, 76, 73, 67, 73, 84]), (Str.mk [65, 85, 84, 79, 77, 65, 84, 73, 67]), (Str.mk [84, 65, 71, 83]), (Str.mk [66, 69, 71, 73, 78]), (Str.mk [69, 78, 68]), (Str.mk [66, 79, 79, 76, 69, 65, 78]), (Str.mk [73, 78, 84, 69, 71, 69, 82]), (Str.mk [69, 78, 85, 77, 69, 82, 65, 84, 69, 68]), (Str.mk [78, 85, 76, 76]), (Str.mk [79, 67, 84, 69, 84]), (Str.mk [83, 84, 82, 73, 78, 71]), (Str.mk [85, 84, 70, 56, 83, 116, 114, 105, 110, 103]), (Str.mk [83, 69, 81, 85, 69, 78, 67, 69]), (Str.mk [83, 69, 84]), (Str.mk [67, 72, 79, 73, 67, 69]), (Str.mk [79, 70]), (Str.mk [79, 80, 84, 73, 79, 78, 65, 76]), (Str.mk [68, 69, 70, 65, 85, 76, 84]), (Str.mk [83, 73, 90, 69]), (Str.mk [77, 73, 78]), (Str.mk [77, 65, 88]), (Str.mk [84, 82, 85, 69]), (Str.mk [70, 65, 76, 83, 69])] : (List Str))) el22 (.cons rfl (fun _ _ h => h) (.cons rfl (fun _ _ h => h) (.cons rfl (fun _ _ h => h) (.cons rfl (fun _ _ h => h) (.cons rfl (fun _ _ h => h) (.cons rfl (fun _ _ h => h) (.cons rfl (fun _ _ h => h) (.cons rfl (fun _ _ h => h) (.cons rfl (fun _ _ h => h) (.cons rfl (fun _ _ h => h) (.cons rfl (fun _ _ h => h) (.cons rfl (fun _ _ h => h) (.cons rfl (fun _ _ h => h) (.cons rfl (fun _ _ h => h) (.cons rfl (fun _ _ h => h) (.cons rfl (fun _ _ h => h) (.cons rfl (fun _ _ h => h) (.cons rfl (fun _ _ h => h) (.cons rfl (fun _ _ h => h) (.cons rfl (fun _ _ h => h) (.cons rfl (fun _ _ h => h) (.cons rfl (fun _ _ h => h) (.cons rfl (fun _ _ h => h) (.cons rfl (fun _ _ h => h) (.cons rfl (fun _ _ h => h) .nil))))))))))))))))))))))))) rfl rfl ?_)
  refine op_cons rfl (OpV.t (v_assign rfl) ?_)
  refine rl_nil ?_
  refine fin_nxt ?_
  refine w_ret ?_
  refine ret_post (.as rfl appv_isv .nil) .nil ?_
  obtain rfl := Option.some.inj h
  exact ⟨rfl, rfl⟩


theorem h_In_string_w : ∀ {a_l : (List Str)} {a_x : Str} {r : Bool}, h_In_string a_l a_x = some r → Ctr Tryd.prog 31 [isv (a_l), isv (a_x)] [] (fun R H => R = oneOf [isv (r)] ∧ H = []) := by
  intro a_l a_x r h
  unfold h_In_string at h
  refine spec_intro Tryd.func31 rfl (by decide +kernel) (by rfl) fun w0 S0 hT => ?_
  refine w_seq ?_
  refine w_region ?_
  refine op_cons rfl (OpV.t (v_assign rfl) ?_)
  refine rl_nil ?_
  refine fin_nxt ?_
  refine w_seq ?_
  refine w_seq ?_
  refine w_region ?_
  refine op_cons rfl (OpV.t (v_assign rfl) ?_)
  refine rl_nil ?_
  refine fin_nxt ?_
  refine w_block ?_
  refine w_lp (ι := Int) (γ := Unit) (fun q1 g1 => [(5, isv (q1))]) (fun q1 g1 => []) h () (mod_cons (j := 5) rfl (fun _ _ h => h) mod_nil) .nil (fun L2 q1 g1 Q7 h hL2 eL2 rL2 => ?_)
  refine w_seq ?_
  refine w_seq ?_
  refine w_region ?_
  refine op_cons rfl (OpV.t (v_move rfl) ?_)
  refine op_cons rfl (OpV.t (v_move rfl) ?_)
  refine op_cons rfl (OpV.t (v_ln (l := a_l) rfl (fun _ _ h => h) sl22) ?_)
  refine op_cons rfl (OpV.t (v_lss rfl rfl) ?_)
  refine rl_nil ?_
  refine fin_nxt ?_
  refine w_condM h rfl (fun _ h => ?_) (fun _ h => ?_)
  · skip
    refine w_skip ?_
    refine fin_nxt ?_
    refine w_seq ?_
    refine w_block ?_
    refine w_seq ?_
    refine w_region ?_
    refine op_cons rfl (OpV.t (v_move rfl) ?_)
    refine op_cons rfl (OpV.t (v_move rfl) ?_)
    refine cal_inv h fun y5 hy5 h => ?_
    refine op_cons rfl (OpV.t (v_ix (l := a_l) rfl (fun _ _ h => h) rfl sl22 hy5) ?_)
    refine op_cons rfl (OpV.t (v_loadI ty9 rfl) ?_)
    refine op_cons rfl (OpV.t (v_move rfl) ?_)
    refine op_cons rfl (OpV.t (v_eqA eq9 rfl rfl) ?_)
    refine rl_nil ?_
    refine fin_nxt ?_
    refine w_condM h rfl (fun _ h => ?_) (fun _ h => ?_)
    · skip
      refine w_seq ?_
      refine w_region ?_
      refine op_cons rfl (OpV.t (v_assign rfl) ?_)
      refine rl_nil ?_
      refine fin_nxt ?_
      refine w_ret ?_
      refine ret_block ?_
      refine ret_nxt ?_
      refine rL2 _ ?_
      refine ret_block ?_
      refine ret_nxt ?_
      refine ret_post (.tmp rfl .nil) .nil ?_
      obtain rfl := Option.some.inj h
      exact ⟨rfl, rfl⟩
    · skip
      refine w_skip ?_
      refine fin_block ?_
      refine fin_nxt ?_
      refine w_region ?_
      refine op_cons rfl (OpV.t (v_move rfl) ?_)
      refine ck_inv h fun q6 h => ?_
      refine op_cons rfl (OpV.t (v_add rfl rfl q6) ?_)
      refine op_cons rfl (OpV.t (v_assign rfl) ?_)
      refine rl_nil ?_
      exact hL2 _ () h _ (join_imp 14 rfl rfl (mod_cons (j := 5) rfl (fun _ _ h => h) mod_nil) .nil)
  · skip
    refine w_exit ?_
    refine exi_nxt ?_
    refine eL2 _ _ ?_
    refine exi_block ?_
    refine fin_nxt ?_
    refine w_seq ?_
    refine w_region ?_
    refine op_cons rfl (OpV.t (v_assign rfl) ?_)
    refine rl_nil ?_
    refine fin_nxt ?_
    refine w_ret ?_
    refine ret_post (.tmp rfl .nil) .nil ?_
    obtain rfl := Option.some.inj h
    exact ⟨rfl, rfl⟩


theorem r04_Word_w : ∀ {a_s : Str} {r : Bool}, r04_Word a_s = some r → Ctr Tryd.prog 54 [isv (a_s)] [] (fun R H => R = oneOf [isv (r)] ∧ H = []) := by
  intro a_s r h
  unfold r04_Word at h
  refine spec_intro Tryd.func54 rfl (by decide +kernel) (by rfl) fun w0 S0 hT => ?_
  refine w_seq ?_
  refine w_region ?_
  refine op_cons rfl (OpV.t (v_assign rfl) ?_)
  refine rl_nil ?_
  refine fin_nxt ?_
  refine w_seq ?_
  refine w_region ?_
  refine cal_inv h fun y1 hy1 h => ?_
  refine op_cons rfl (t_call (r04_words_w hy1) hT .nil .nil (fun R H' hR => ?_))
  obtain ⟨rfl, rfl⟩ := hR
  refine op_cons rfl (OpV.t (v_move rfl) ?_)
  refine cal_inv h fun y2 hy2 h => ?_
  refine op_cons rfl (t_call (h_In_string_w hy2) hT (.same rfl (.same rfl .nil)) .nil (fun R H' hR => ?_))
  obtain ⟨rfl, rfl⟩ := hR
  refine op_cons rfl (OpV.t (v_assign rfl) ?_)
  refine rl_nil ?_
  refine fin_nxt ?_
  refine w_ret ?_
  refine ret_post (.tmp rfl .nil) .nil ?_
  obtain rfl := Option.some.inj h
  exact ⟨rfl, rfl⟩


theorem r04_number_w : ∀ {a_s : Str} {a_i : Int} {r : Int}, r04_number a_s a_i = some r → Ctr Tryd.prog 56 [isv (a_s), isv (a_i)] [] (fun R H => R = oneOf [isv (r)] ∧ H = []) := by
  intro a_s a_i r h
  unfold r04_number at h
  refine spec_intro Tryd.func56 rfl (by decide +kernel) (by rfl) fun w0 S0 hT => ?_
  refine w_seq ?_
  refine w_region ?_
  refine op_cons rfl (OpV.t (v_assign rfl) ?_)
  refine rl_nil ?_
  refine fin_nxt ?_
  refine w_seq ?_
  refine w_region ?_
  refine op_cons rfl (OpV.t (v_move rfl) ?_)
  refine op_cons rfl (OpV.t (v_move rfl) ?_)
  refine cal_inv h fun y1 hy1 h => ?_
  refine op_cons rfl (OpV.t (v_idxS y1 st9 rfl rfl hy1) ?_)
  refine op_cons rfl (OpV.t (v_eqA eq5 rfl rfl) ?_)
  refine op_cons rfl (OpV.t (v_assign rfl) ?_)
  refine rl_nil ?_
  refine fin_nxt ?_
  refine w_seq ?_
  refine w_seq ?_
  refine w_region ?_
  refine op_cons rfl (OpV.t (v_move rfl) ?_)
  refine rl_nil ?_
  refine fin_nxt ?_
  refine w_J (ι := Int) (γ := Unit) (fun q2 g2 => [(1, isv (q2))]) (fun q2 g2 => []) .nil h (fun q2 g2 h => ?_) (fun J3 h hJ3 => ?_)
  · skip
    refine w_seq ?_
    refine w_region ?_
    refine op_cons rfl (OpV.t (v_move rfl) ?_)
    refine op_cons rfl (OpV.t (v_assign rfl) ?_)
    refine rl_nil ?_
    refine fin_nxt ?_
    refine w_seq ?_
    refine w_region ?_
    refine op_cons rfl (OpV.t (v_assign rfl) ?_)
    refine rl_nil ?_
    refine fin_nxt ?_
    refine w_seq ?_
    refine w_block ?_
    refine w_lp (ι := Int × UInt64) (γ := Unit) (fun q5 g5 => [(1, isv (q5.1)), (7, isv (q5.2))]) (fun q5 g5 => []) h () (mod_cons (j := 1) rfl (fun _ _ h => h) (mod_cons (j := 7) rfl (fun _ _ h => h) mod_nil)) .nil (fun L6 q5 g5 Q91 h hL6 eL6 rL6 => ?_)
    refine w_seq ?_
    refine w_seq ?_
    refine w_region ?_
    refine op_cons rfl (OpV.t (v_move rfl) ?_)
    refine op_cons rfl (OpV.t (v_move rfl) ?_)
    refine op_cons rfl (OpV.t (v_lenS st9 rfl) ?_)
    refine op_cons rfl (OpV.t (v_lss rfl rfl) ?_)
    refine op_cons rfl (OpV.t (v_move rfl) ?_)
    refine rl_j (ι := Bool) (γ := Unit) (fun q49 g49 => [(26, isv (q49))]) (fun q49 g49 => []) .nil h 5 rfl (fun q49 g49 h => ?_) (fun J50 h hJ50 => ?_)
    · skip
      refine rl_nil ?_
      refine fin_nxt ?_
      refine w_condM h rfl (fun _ h => ?_) (fun _ h => ?_)
      · skip
        refine w_skip ?_
        refine fin_nxt ?_
        refine w_block ?_
        refine w_seq ?_
        refine w_seq ?_
        refine w_region ?_
        refine op_cons rfl (OpV.t (v_move rfl) ?_)
        refine op_cons rfl (OpV.t (v_move rfl) ?_)
        refine ck_inv h fun q54 h => ?_
        refine op_cons rfl (OpV.t (v_sub rfl rfl q54) ?_)
        refine op_cons rfl (OpV.t (v_lss rfl rfl) ?_)
        refine rl_nil ?_
        refine fin_nxt ?_
        refine w_J (ι := UInt64) (γ := Unit) (fun q55 g55 => [(7, isv (q55))]) (fun q55 g55 => []) .nil h (fun q55 g55 h => ?_) (fun J56 h hJ56 => ?_)
        · skip
          refine w_region ?_
          refine op_cons rfl (OpV.t (v_move rfl) ?_)
          refine ck_inv h fun q58 h => ?_
          refine op_cons rfl (OpV.t (v_add rfl rfl q58) ?_)
          refine op_cons rfl (OpV.t (v_assign rfl) ?_)
          refine rl_nil ?_
          refine fin_block ?_
          exact hL6 _ () h _ (join_imp 16 rfl rfl (mod_cons (j := 1) rfl (fun _ _ h => h) (mod_cons (j := 7) rfl (fun _ _ h => h) mod_nil)) .nil)
        · skip
          refine w_condM h rfl (fun _ h => ?_) (fun _ h => ?_)
          · skip
            refine w_region ?_
            refine op_cons rfl (OpV.t (v_move rfl) ?_)
            refine op_cons rfl (OpV.t (v_mul64 rfl rfl) ?_)
            refine op_cons rfl (OpV.t (v_move rfl) ?_)
            refine op_cons rfl (OpV.t (v_move rfl) ?_)
            refine cal_inv h fun y57 hy57 h => ?_
            refine op_cons rfl (OpV.t (v_idxS y57 st9 rfl rfl hy57) ?_)
            refine op_cons rfl (OpV.t (v_sub8 rfl rfl) ?_)
            refine op_cons rfl (OpV.t (v_u8u64 Tryd.underlying5 Tryd.underlying41 rfl) ?_)
            refine op_cons rfl (OpV.t (v_add64 rfl rfl) ?_)
            refine op_cons rfl (OpV.t (v_assign rfl) ?_)
            refine rl_nil ?_
            exact hJ56 _ () h _ (join_imp 9 rfl rfl (mod_cons (j := 7) rfl (fun _ _ h => h) mod_nil) .nil)
          · skip
            refine w_skip ?_
            exact hJ56 _ () h _ (join_imp 0 rfl rfl (mod_cons (j := 7) rfl (fun _ _ h => h) mod_nil) .nil)
      · skip
        refine w_exit ?_
        refine exi_nxt ?_
        refine eL6 _ _ ?_
        refine exi_block ?_
        refine fin_nxt ?_
        refine w_seq ?_
        refine w_region ?_
        refine op_cons rfl (OpV.t (v_move rfl) ?_)
        refine op_cons rfl (OpV.t (v_move rfl) ?_)
        refine ck_inv h fun q59 h => ?_
        refine op_cons rfl (OpV.t (v_sub rfl rfl q59) ?_)
        refine op_cons rfl (OpV.t (v_assign rfl) ?_)
        refine rl_nil ?_
        refine fin_nxt ?_
        refine w_seq ?_
        refine w_seq ?_
        refine w_region ?_
        refine op_cons rfl (OpV.t (v_move rfl) ?_)
        refine op_cons rfl (OpV.t (v_lss rfl rfl) ?_)
        refine op_cons rfl (OpV.t (v_move rfl) ?_)
        refine rl_j (ι := Bool) (γ := Unit) (fun q60 g60 => [(49, isv (q60))]) (fun q60 g60 => []) .nil h 3 rfl (fun q60 g60 h => ?_) (fun J61 h hJ61 => ?_)
        · skip
          refine op_cons rfl (OpV.t (v_move rfl) ?_)
          refine rl_j (ι := Bool) (γ := Unit) (fun q63 g63 => [(59, isv (q63))]) (fun q63 g63 => []) .nil h 9 rfl (fun q63 g63 h => ?_) (fun J64 h hJ64 => ?_)
          · skip
            refine op_cons rfl (OpV.t (v_move rfl) ?_)
            refine rl_j (ι := Bool) (γ := Unit) (fun q70 g70 => [(68, isv (q70))]) (fun q70 g70 => []) .nil h 8 rfl (fun q70 g70 h => ?_) (fun J71 h hJ71 => ?_)
            · skip
              refine op_cons rfl (OpV.t (v_move rfl) ?_)
              refine rl_j (ι := Bool) (γ := Unit) (fun q77 g77 => [(74, isv (q77))]) (fun q77 g77 => []) .nil h 5 rfl (fun q77 g77 h => ?_) (fun J78 h hJ78 => ?_)
              · skip
                refine op_cons rfl (OpV.t (v_move rfl) ?_)
                refine rl_j (ι := Bool) (γ := Unit) (fun q82 g82 => [(78, isv (q82))]) (fun q82 g82 => []) .nil h 3 rfl (fun q82 g82 h => ?_) (fun J83 h hJ83 => ?_)
                · skip
                  refine op_cons rfl (OpV.t (v_move rfl) ?_)
                  refine rl_j (ι := Bool) (γ := Unit) (fun q85 g85 => [(86, isv (q85))]) (fun q85 g85 => []) .nil h 7 rfl (fun q85 g85 h => ?_) (fun J86 h hJ86 => ?_)
                  · skip
                    refine rl_nil ?_
                    refine fin_nxt ?_
                    refine w_condM h rfl (fun _ h => ?_) (fun _ h => ?_)
                    · skip
                      refine w_seq ?_
                      refine w_region ?_
                      refine op_cons rfl (OpV.t (v_assign rfl) ?_)
                      refine rl_nil ?_
                      refine fin_nxt ?_
                      refine w_ret ?_
                      refine ret_nxt ?_
                      refine ret_post (.tmp rfl .nil) .nil ?_
                      obtain rfl := Option.some.inj h
                      exact ⟨rfl, rfl⟩
                    · skip
                      refine w_skip ?_
                      refine fin_nxt ?_
                      refine w_seq ?_
                      refine w_region ?_
                      refine op_cons rfl (OpV.t (v_move rfl) ?_)
                      refine op_cons rfl (OpV.t (v_assign rfl) ?_)
                      refine rl_nil ?_
                      refine fin_nxt ?_
                      refine w_ret ?_
                      refine ret_post (.tmp rfl .nil) .nil ?_
                      obtain rfl := Option.some.inj h
                      exact ⟨rfl, rfl⟩
                  · skip
                    refine rl_condM (j := 79) h rfl (fun g87 h => ?_) (fun g87 h => ?_)
                    · skip
                      refine op_pass rfl (dj := 79) rfl g87 ?_
                      refine op_pass rfl (dj := 79) rfl g87 ?_
                      refine op_pass rfl (dj := 79) rfl g87 ?_
                      refine op_passU rfl (dj := 82) rfl ?_
                      refine op_passU rfl (dj := 82) rfl ?_
                      refine op_pass rfl (dj := 79) rfl g87 ?_
                      refine op_cons rfl (OpV.t (v_pick_t rfl g87 rfl) ?_)
                      exact hJ86 _ () h _ (join_imp 7 rfl rfl (mod_cons (j := 86) rfl (fun _ _ h => h) mod_nil) .nil)
                    · skip
                      refine op_take rfl rfl (dj := 79) rfl g87 (OpV.t (v_move rfl) ?_)
                      refine op_take rfl rfl (dj := 79) rfl g87 (OpV.t (v_not rfl) ?_)
                      refine op_take rfl rfl (dj := 79) rfl g87 (OpV.t (v_move rfl) ?_)
                      refine rl_j (ι := Bool) (γ := Unit) (fun q88 g88 => [(85, isv (q88))]) (fun q88 g88 => []) .nil h 3 rfl (fun q88 g88 h => ?_) (fun J89 h hJ89 => ?_)
                      · skip
                        refine op_cons rfl (OpV.t (v_pick_f rfl g87 rfl) ?_)
                        exact hJ86 _ () h _ (join_imp 5 rfl rfl (mod_cons (j := 86) rfl (fun _ _ h => h) mod_nil) .nil)
                      · skip
                        refine rl_condM (j := 82) h rfl (fun g90 h => ?_) (fun g90 h => ?_)
                        · skip
                          refine op_take rfl rfl (dj := 82) rfl g90 (OpV.t (v_move rfl) ?_)
                          refine op_take rfl rfl (dj := 82) rfl g90 (OpV.t (v_eql64 rfl rfl) ?_)
                          refine op_take rfl rfl (dj := 79) rfl g87 (OpV.t (v_pick_t rfl g90 rfl) ?_)
                          exact hJ89 _ () h _ (join_imp 3 rfl rfl (mod_cons (j := 85) rfl (fun _ _ h => h) mod_nil) .nil)
                        · skip
                          refine op_pass rfl (dj := 82) rfl g90 ?_
                          refine op_pass rfl (dj := 82) rfl g90 ?_
                          refine op_take rfl rfl (dj := 79) rfl g87 (OpV.t (v_pick_f rfl g90 rfl) ?_)
                          exact hJ89 _ () h _ (join_imp 3 rfl rfl (mod_cons (j := 85) rfl (fun _ _ h => h) mod_nil) .nil)
                · skip
                  refine rl_condM (j := 75) h rfl (fun g84 h => ?_) (fun g84 h => ?_)
                  · skip
                    refine op_pass rfl (dj := 75) rfl g84 ?_
                    refine op_pass rfl (dj := 75) rfl g84 ?_
                    refine op_cons rfl (OpV.t (v_pick_t rfl g84 rfl) ?_)
                    exact hJ83 _ () h _ (join_imp 3 rfl rfl (mod_cons (j := 78) rfl (fun _ _ h => h) mod_nil) .nil)
                  · skip
                    refine op_take rfl rfl (dj := 75) rfl g84 (OpV.t (v_move rfl) ?_)
                    refine op_take rfl rfl (dj := 75) rfl g84 (OpV.t (v_gtr64 rfl rfl) ?_)
                    refine op_cons rfl (OpV.t (v_pick_f rfl g84 rfl) ?_)
                    exact hJ83 _ () h _ (join_imp 3 rfl rfl (mod_cons (j := 78) rfl (fun _ _ h => h) mod_nil) .nil)
              · skip
                refine rl_condM (j := 69) h rfl (fun g79 h => ?_) (fun g79 h => ?_)
                · skip
                  refine op_pass rfl (dj := 69) rfl g79 ?_
                  refine op_pass rfl (dj := 69) rfl g79 ?_
                  refine op_pass rfl (dj := 69) rfl g79 ?_
                  refine op_pass rfl (dj := 69) rfl g79 ?_
                  refine op_cons rfl (OpV.t (v_pick_t rfl g79 rfl) ?_)
                  exact hJ78 _ () h _ (join_imp 5 rfl rfl (mod_cons (j := 74) rfl (fun _ _ h => h) mod_nil) .nil)
                · skip
                  refine op_take rfl rfl (dj := 69) rfl g79 (OpV.t (v_move rfl) ?_)
                  refine op_take rfl rfl (dj := 69) rfl g79 (OpV.t (v_move rfl) ?_)
                  refine cal_inv h fun y80 hy80 h => ?_
                  refine op_take rfl rfl (dj := 69) rfl g79 (t_call (r04_at_w hy80) hT (.same rfl (.same rfl .nil)) .nil (fun R H' hR => ?_))
                  obtain ⟨rfl, rfl⟩ := hR
                  refine cal_inv h fun y81 hy81 h => ?_
                  refine op_take rfl rfl (dj := 69) rfl g79 (t_call (r04_letter_w hy81) hT (.same rfl .nil) .nil (fun R H' hR => ?_))
                  obtain ⟨rfl, rfl⟩ := hR
                  refine op_cons rfl (OpV.t (v_pick_f rfl g79 rfl) ?_)
                  exact hJ78 _ () h _ (join_imp 5 rfl rfl (mod_cons (j := 74) rfl (fun _ _ h => h) mod_nil) .nil)
            · skip
              refine rl_condM (j := 60) h rfl (fun g72 h => ?_) (fun g72 h => ?_)
              · skip
                refine op_pass rfl (dj := 60) rfl g72 ?_
                refine op_pass rfl (dj := 60) rfl g72 ?_
                refine op_passU rfl (dj := 62) rfl ?_
                refine op_passU rfl (dj := 62) rfl ?_
                refine op_passU rfl (dj := 62) rfl ?_
                refine op_passU rfl (dj := 62) rfl ?_
                refine op_pass rfl (dj := 60) rfl g72 ?_
                refine op_cons rfl (OpV.t (v_pick_t rfl g72 rfl) ?_)
                exact hJ71 _ () h _ (join_imp 8 rfl rfl (mod_cons (j := 68) rfl (fun _ _ h => h) mod_nil) .nil)
              · skip
                refine op_take rfl rfl (dj := 60) rfl g72 (OpV.t (v_move rfl) ?_)
                refine op_take rfl rfl (dj := 60) rfl g72 (OpV.t (v_move rfl) ?_)
                refine rl_j (ι := Bool) (γ := Unit) (fun q73 g73 => [(67, isv (q73))]) (fun q73 g73 => []) .nil h 5 rfl (fun q73 g73 h => ?_) (fun J74 h hJ74 => ?_)
                · skip
                  refine op_cons rfl (OpV.t (v_pick_f rfl g72 rfl) ?_)
                  exact hJ71 _ () h _ (join_imp 4 rfl rfl (mod_cons (j := 68) rfl (fun _ _ h => h) mod_nil) .nil)
                · skip
                  refine rl_condM (j := 62) h rfl (fun g75 h => ?_) (fun g75 h => ?_)
                  · skip
                    refine op_take rfl rfl (dj := 62) rfl g75 (OpV.t (v_move rfl) ?_)
                    refine op_take rfl rfl (dj := 62) rfl g75 (OpV.t (v_move rfl) ?_)
                    refine cal_inv h fun y76 hy76 h => ?_
                    refine op_take rfl rfl (dj := 62) rfl g75 (OpV.t (v_idxS y76 st9 rfl rfl hy76) ?_)
                    refine op_take rfl rfl (dj := 62) rfl g75 (OpV.t (v_eqA eq5 rfl rfl) ?_)
                    refine op_take rfl rfl (dj := 60) rfl g72 (OpV.t (v_pick_t rfl g75 rfl) ?_)
                    exact hJ74 _ () h _ (join_imp 5 rfl rfl (mod_cons (j := 67) rfl (fun _ _ h => h) mod_nil) .nil)
                  · skip
                    refine op_pass rfl (dj := 62) rfl g75 ?_
                    refine op_pass rfl (dj := 62) rfl g75 ?_
                    refine op_pass rfl (dj := 62) rfl g75 ?_
                    refine op_pass rfl (dj := 62) rfl g75 ?_
                    refine op_take rfl rfl (dj := 60) rfl g72 (OpV.t (v_pick_f rfl g75 rfl) ?_)
                    exact hJ74 _ () h _ (join_imp 5 rfl rfl (mod_cons (j := 67) rfl (fun _ _ h => h) mod_nil) .nil)
          · skip
            refine rl_condM (j := 50) h rfl (fun g65 h => ?_) (fun g65 h => ?_)
            · skip
              refine op_pass rfl (dj := 50) rfl g65 ?_
              refine op_pass rfl (dj := 50) rfl g65 ?_
              refine op_pass rfl (dj := 50) rfl g65 ?_
              refine op_passU rfl (dj := 53) rfl ?_
              refine op_passU rfl (dj := 53) rfl ?_
              refine op_passU rfl (dj := 53) rfl ?_
              refine op_passU rfl (dj := 53) rfl ?_
              refine op_pass rfl (dj := 50) rfl g65 ?_
              refine op_cons rfl (OpV.t (v_pick_t rfl g65 rfl) ?_)
              exact hJ64 _ () h _ (join_imp 9 rfl rfl (mod_cons (j := 59) rfl (fun _ _ h => h) mod_nil) .nil)
            · skip
              refine op_take rfl rfl (dj := 50) rfl g65 (OpV.t (v_move rfl) ?_)
              refine op_take rfl rfl (dj := 50) rfl g65 (OpV.t (v_gtr rfl rfl) ?_)
              refine op_take rfl rfl (dj := 50) rfl g65 (OpV.t (v_move rfl) ?_)
              refine rl_j (ι := Bool) (γ := Unit) (fun q66 g66 => [(58, isv (q66))]) (fun q66 g66 => []) .nil h 5 rfl (fun q66 g66 h => ?_) (fun J67 h hJ67 => ?_)
              · skip
                refine op_cons rfl (OpV.t (v_pick_f rfl g65 rfl) ?_)
                exact hJ64 _ () h _ (join_imp 5 rfl rfl (mod_cons (j := 59) rfl (fun _ _ h => h) mod_nil) .nil)
              · skip
                refine rl_condM (j := 53) h rfl (fun g68 h => ?_) (fun g68 h => ?_)
                · skip
                  refine op_take rfl rfl (dj := 53) rfl g68 (OpV.t (v_move rfl) ?_)
                  refine op_take rfl rfl (dj := 53) rfl g68 (OpV.t (v_move rfl) ?_)
                  refine cal_inv h fun y69 hy69 h => ?_
                  refine op_take rfl rfl (dj := 53) rfl g68 (OpV.t (v_idxS y69 st9 rfl rfl hy69) ?_)
                  refine op_take rfl rfl (dj := 53) rfl g68 (OpV.t (v_eqA eq5 rfl rfl) ?_)
                  refine op_take rfl rfl (dj := 50) rfl g65 (OpV.t (v_pick_t rfl g68 rfl) ?_)
                  exact hJ67 _ () h _ (join_imp 5 rfl rfl (mod_cons (j := 58) rfl (fun _ _ h => h) mod_nil) .nil)
                · skip
                  refine op_pass rfl (dj := 53) rfl g68 ?_
                  refine op_pass rfl (dj := 53) rfl g68 ?_
                  refine op_pass rfl (dj := 53) rfl g68 ?_
                  refine op_pass rfl (dj := 53) rfl g68 ?_
                  refine op_take rfl rfl (dj := 50) rfl g65 (OpV.t (v_pick_f rfl g68 rfl) ?_)
                  exact hJ67 _ () h _ (join_imp 5 rfl rfl (mod_cons (j := 58) rfl (fun _ _ h => h) mod_nil) .nil)
        · skip
          refine rl_condM (j := 46) h rfl (fun g62 h => ?_) (fun g62 h => ?_)
          · skip
            refine op_pass rfl (dj := 46) rfl g62 ?_
            refine op_pass rfl (dj := 46) rfl g62 ?_
            refine op_cons rfl (OpV.t (v_pick_t rfl g62 rfl) ?_)
            exact hJ61 _ () h _ (join_imp 3 rfl rfl (mod_cons (j := 49) rfl (fun _ _ h => h) mod_nil) .nil)
          · skip
            refine op_take rfl rfl (dj := 46) rfl g62 (OpV.t (v_move rfl) ?_)
            refine op_take rfl rfl (dj := 46) rfl g62 (OpV.t (v_gtr rfl rfl) ?_)
            refine op_cons rfl (OpV.t (v_pick_f rfl g62 rfl) ?_)
            exact hJ61 _ () h _ (join_imp 3 rfl rfl (mod_cons (j := 49) rfl (fun _ _ h => h) mod_nil) .nil)
    · skip
      refine rl_condM (j := 21) h rfl (fun g51 h => ?_) (fun g51 h => ?_)
      · skip
        refine op_take rfl rfl (dj := 21) rfl g51 (OpV.t (v_move rfl) ?_)
        refine op_take rfl rfl (dj := 21) rfl g51 (OpV.t (v_move rfl) ?_)
        refine cal_inv h fun y52 hy52 h => ?_
        refine op_take rfl rfl (dj := 21) rfl g51 (OpV.t (v_idxS y52 st9 rfl rfl hy52) ?_)
        refine cal_inv h fun y53 hy53 h => ?_
        refine op_take rfl rfl (dj := 21) rfl g51 (t_call (r04_digit_w hy53) hT (.same rfl .nil) .nil (fun R H' hR => ?_))
        obtain ⟨rfl, rfl⟩ := hR
        refine op_cons rfl (OpV.t (v_pick_t rfl g51 rfl) ?_)
        exact hJ50 _ () h _ (join_imp 5 rfl rfl (mod_cons (j := 26) rfl (fun _ _ h => h) mod_nil) .nil)
      · skip
        refine op_pass rfl (dj := 21) rfl g51 ?_
        refine op_pass rfl (dj := 21) rfl g51 ?_
        refine op_pass rfl (dj := 21) rfl g51 ?_
        refine op_pass rfl (dj := 21) rfl g51 ?_
        refine op_cons rfl (OpV.t (v_pick_f rfl g51 rfl) ?_)
        exact hJ50 _ () h _ (join_imp 5 rfl rfl (mod_cons (j := 26) rfl (fun _ _ h => h) mod_nil) .nil)
  · skip
    refine w_condM h rfl (fun _ h => ?_) (fun _ h => ?_)
    · skip
      refine w_region ?_
      refine op_cons rfl (OpV.t (v_move rfl) ?_)
      refine ck_inv h fun q4 h => ?_
      refine op_cons rfl (OpV.t (v_add rfl rfl q4) ?_)
      refine op_cons rfl (OpV.t (v_assign rfl) ?_)
      refine rl_nil ?_
      exact hJ3 _ () h _ (join_imp 3 rfl rfl (mod_cons (j := 1) rfl (fun _ _ h => h) mod_nil) .nil)
    · skip
      refine w_skip ?_
      exact hJ3 _ () h _ (join_imp 0 rfl rfl (mod_cons (j := 1) rfl (fun _ _ h => h) mod_nil) .nil)


theorem r04_hex_w : ∀ {a_s : Str} {a_i : Int} {r : Int × Str}, r04_hex a_s a_i = some r → Ctr Tryd.prog 57 [isv (a_s), isv (a_i)] [] (fun R H => R = oneOf [isv (r.1), isv (r.2)] ∧ H = []) := by
  intro a_s a_i r h
  unfold r04_hex at h
  refine spec_intro Tryd.func57 rfl (by decide +kernel) (by rfl) fun w0 S0 hT => ?_
  refine w_seq ?_
  refine w_region ?_
  refine op_cons rfl (OpV.t (v_assign rfl) ?_)
  refine op_cons rfl (OpV.t (v_assign rfl) ?_)
  refine rl_nil ?_
  refine fin_nxt ?_
  refine w_seq ?_
  refine w_region ?_
  refine op_cons rfl (OpV.t (v_move rfl) ?_)
  refine ck_inv h fun q1 h => ?_
  refine op_cons rfl (OpV.t (v_add rfl rfl q1) ?_)
  refine op_cons rfl (OpV.t (v_assign rfl) ?_)
  refine rl_nil ?_
  refine fin_nxt ?_
  refine w_seq ?_
  refine w_region ?_
  refine op_cons rfl (OpV.t (v_move rfl) ?_)
  refine op_cons rfl (OpV.t (v_assign rfl) ?_)
  refine rl_nil ?_
  refine fin_nxt ?_
  refine w_seq ?_
  refine w_block ?_
  refine w_lp (ι := Int) (γ := Unit) (fun q2 g2 => [(1, isv (q2))]) (fun q2 g2 => []) h () (mod_cons (j := 1) rfl (fun _ _ h => h) mod_nil) .nil (fun L3 q2 g2 Q58 h hL3 eL3 rL3 => ?_)
  refine w_seq ?_
  refine w_seq ?_
  refine w_region ?_
  refine op_cons rfl (OpV.t (v_move rfl) ?_)
  refine op_cons rfl (OpV.t (v_move rfl) ?_)
  refine op_cons rfl (OpV.t (v_lenS st9 rfl) ?_)
  refine op_cons rfl (OpV.t (v_lss rfl rfl) ?_)
  refine op_cons rfl (OpV.t (v_move rfl) ?_)
  refine rl_j (ι := Bool) (γ := Unit) (fun q31 g31 => [(31, isv (q31))]) (fun q31 g31 => []) .nil h 17 rfl (fun q31 g31 h => ?_) (fun J32 h hJ32 => ?_)
  · skip
    refine rl_nil ?_
    refine fin_nxt ?_
    refine w_condM h rfl (fun _ h => ?_) (fun _ h => ?_)
    · skip
      refine w_skip ?_
      refine fin_nxt ?_
      refine w_block ?_
      refine w_region ?_
      refine op_cons rfl (OpV.t (v_move rfl) ?_)
      refine ck_inv h fun q44 h => ?_
      refine op_cons rfl (OpV.t (v_add rfl rfl q44) ?_)
      refine op_cons rfl (OpV.t (v_assign rfl) ?_)
      refine rl_nil ?_
      refine fin_block ?_
      exact hL3 _ () h _ (join_imp 10 rfl rfl (mod_cons (j := 1) rfl (fun _ _ h => h) mod_nil) .nil)
    · skip
      refine w_exit ?_
      refine exi_nxt ?_
      refine eL3 _ _ ?_
      refine exi_block ?_
      refine fin_nxt ?_
      refine w_seq ?_
      refine w_seq ?_
      refine w_region ?_
      refine op_cons rfl (OpV.t (v_move rfl) ?_)
      refine op_cons rfl (OpV.t (v_move rfl) ?_)
      refine ck_inv h fun q45 h => ?_
      refine op_cons rfl (OpV.t (v_sub rfl rfl q45) ?_)
      refine asr_inv h fun q46 h => ?_
      refine op_cons rfl (OpV.t (v_remI rfl rfl q46) ?_)
      refine op_cons rfl (OpV.t (v_neq rfl rfl) ?_)
      refine op_cons rfl (OpV.t (v_move rfl) ?_)
      refine rl_j (ι := Bool) (γ := Unit) (fun q47 g47 => [(44, isv (q47))]) (fun q47 g47 => []) .nil h 5 rfl (fun q47 g47 h => ?_) (fun J48 h hJ48 => ?_)
      · skip
        refine op_cons rfl (OpV.t (v_move rfl) ?_)
        refine rl_j (ι := Bool) (γ := Unit) (fun q51 g51 => [(51, isv (q51))]) (fun q51 g51 => []) .nil h 6 rfl (fun q51 g51 h => ?_) (fun J52 h hJ52 => ?_)
        · skip
          refine rl_nil ?_
          refine fin_nxt ?_
          refine w_condM h rfl (fun _ h => ?_) (fun _ h => ?_)
          · skip
            refine w_seq ?_
            refine w_region ?_
            refine op_cons rfl (OpV.t (v_assign rfl) ?_)
            refine op_cons rfl (OpV.t (v_assign rfl) ?_)
            refine rl_nil ?_
            refine fin_nxt ?_
            refine w_ret ?_
            refine ret_nxt ?_
            refine ret_post (.tmp rfl (.tmp rfl .nil)) .nil ?_
            obtain rfl := Option.some.inj h
            exact ⟨rfl, rfl⟩
          · skip
            refine w_skip ?_
            refine fin_nxt ?_
            refine w_seq ?_
            refine w_regionD (.v 0 (.v 1 (.v 2 (.v 3 (.v 4 (.v 5 (.v 6 (.v 7 .nil)))))))) moOrd (by kernel_rfl) ?_
            refine rd_v rfl (v_move rfl) ?_
            refine ck_inv h fun q56 h => ?_
            refine rd_v rfl (v_add rfl rfl q56) ?_
            refine rd_v rfl (v_move rfl) ?_
            refine rd_v rfl (v_move rfl) ?_
            refine rd_v rfl (v_move rfl) ?_
            refine asd_inv h fun q57 h => ?_
            refine rd_v rfl (v_slS st9 rfl (.inr ⟨_, rfl, rfl⟩) (.inr ⟨_, rfl, rfl⟩) q57.1 q57.2.1 q57.2.2) ?_
            refine rd_v rfl (v_assign rfl) ?_
            refine rd_v rfl (v_assign rfl) ?_
            refine rd_nil ?_
            refine fin_nxt ?_
            refine w_ret ?_
            refine ret_post (.tmp rfl (.tmp rfl .nil)) .nil ?_
            obtain rfl := Option.some.inj h
            exact ⟨rfl, rfl⟩
        · skip
          refine rl_condM (j := 45) h rfl (fun g53 h => ?_) (fun g53 h => ?_)
          · skip
            refine op_pass rfl (dj := 45) rfl g53 ?_
            refine op_pass rfl (dj := 45) rfl g53 ?_
            refine op_pass rfl (dj := 45) rfl g53 ?_
            refine op_pass rfl (dj := 45) rfl g53 ?_
            refine op_pass rfl (dj := 45) rfl g53 ?_
            refine op_cons rfl (OpV.t (v_pick_t rfl g53 rfl) ?_)
            exact hJ52 _ () h _ (join_imp 6 rfl rfl (mod_cons (j := 51) rfl (fun _ _ h => h) mod_nil) .nil)
          · skip
            refine op_take rfl rfl (dj := 45) rfl g53 (OpV.t (v_move rfl) ?_)
            refine op_take rfl rfl (dj := 45) rfl g53 (OpV.t (v_move rfl) ?_)
            refine ck_inv h fun q54 h => ?_
            refine op_take rfl rfl (dj := 45) rfl g53 (OpV.t (v_add rfl rfl q54) ?_)
            refine cal_inv h fun y55 hy55 h => ?_
            refine op_take rfl rfl (dj := 45) rfl g53 (t_call (r04_at_w hy55) hT (.same rfl (.same rfl .nil)) .nil (fun R H' hR => ?_))
            obtain ⟨rfl, rfl⟩ := hR
            refine op_take rfl rfl (dj := 45) rfl g53 (OpV.t (v_neA eq5 rfl rfl) ?_)
            refine op_cons rfl (OpV.t (v_pick_f rfl g53 rfl) ?_)
            exact hJ52 _ () h _ (join_imp 6 rfl rfl (mod_cons (j := 51) rfl (fun _ _ h => h) mod_nil) .nil)
      · skip
        refine rl_condM (j := 39) h rfl (fun g49 h => ?_) (fun g49 h => ?_)
        · skip
          refine op_pass rfl (dj := 39) rfl g49 ?_
          refine op_pass rfl (dj := 39) rfl g49 ?_
          refine op_pass rfl (dj := 39) rfl g49 ?_
          refine op_pass rfl (dj := 39) rfl g49 ?_
          refine op_cons rfl (OpV.t (v_pick_t rfl g49 rfl) ?_)
          exact hJ48 _ () h _ (join_imp 5 rfl rfl (mod_cons (j := 44) rfl (fun _ _ h => h) mod_nil) .nil)
        · skip
          refine op_take rfl rfl (dj := 39) rfl g49 (OpV.t (v_move rfl) ?_)
          refine op_take rfl rfl (dj := 39) rfl g49 (OpV.t (v_move rfl) ?_)
          refine cal_inv h fun y50 hy50 h => ?_
          refine op_take rfl rfl (dj := 39) rfl g49 (t_call (r04_at_w hy50) hT (.same rfl (.same rfl .nil)) .nil (fun R H' hR => ?_))
          obtain ⟨rfl, rfl⟩ := hR
          refine op_take rfl rfl (dj := 39) rfl g49 (OpV.t (v_neA eq5 rfl rfl) ?_)
          refine op_cons rfl (OpV.t (v_pick_f rfl g49 rfl) ?_)
          exact hJ48 _ () h _ (join_imp 5 rfl rfl (mod_cons (j := 44) rfl (fun _ _ h => h) mod_nil) .nil)
  · skip
    refine rl_condM (j := 14) h rfl (fun g33 h => ?_) (fun g33 h => ?_)
    · skip
      refine op_take rfl rfl (dj := 14) rfl g33 (OpV.t (v_move rfl) ?_)
      refine op_take rfl rfl (dj := 14) rfl g33 (OpV.t (v_move rfl) ?_)
      refine cal_inv h fun y34 hy34 h => ?_
      refine op_take rfl rfl (dj := 14) rfl g33 (OpV.t (v_idxS y34 st9 rfl rfl hy34) ?_)
      refine cal_inv h fun y35 hy35 h => ?_
      refine op_take rfl rfl (dj := 14) rfl g33 (t_call (r04_digit_w hy35) hT (.same rfl .nil) .nil (fun R H' hR => ?_))
      obtain ⟨rfl, rfl⟩ := hR
      refine op_take rfl rfl (dj := 14) rfl g33 (OpV.t (v_move rfl) ?_)
      refine rl_j (ι := Bool) (γ := Unit) (fun q36 g36 => [(30, isv (q36))]) (fun q36 g36 => []) .nil h 11 rfl (fun q36 g36 h => ?_) (fun J37 h hJ37 => ?_)
      · skip
        refine op_cons rfl (OpV.t (v_pick_t rfl g33 rfl) ?_)
        exact hJ32 _ () h _ (join_imp 7 rfl rfl (mod_cons (j := 31) rfl (fun _ _ h => h) mod_nil) .nil)
      · skip
        refine rl_condM (j := 19) h rfl (fun g38 h => ?_) (fun g38 h => ?_)
        · skip
          refine op_pass rfl (dj := 19) rfl g38 ?_
          refine op_pass rfl (dj := 19) rfl g38 ?_
          refine op_pass rfl (dj := 19) rfl g38 ?_
          refine op_pass rfl (dj := 19) rfl g38 ?_
          refine op_pass rfl (dj := 19) rfl g38 ?_
          refine op_passU rfl (dj := 24) rfl ?_
          refine op_passU rfl (dj := 24) rfl ?_
          refine op_passU rfl (dj := 24) rfl ?_
          refine op_passU rfl (dj := 24) rfl ?_
          refine op_pass rfl (dj := 19) rfl g38 ?_
          refine op_take rfl rfl (dj := 14) rfl g33 (OpV.t (v_pick_t rfl g38 rfl) ?_)
          exact hJ37 _ () h _ (join_imp 11 rfl rfl (mod_cons (j := 30) rfl (fun _ _ h => h) mod_nil) .nil)
        · skip
          refine op_take rfl rfl (dj := 19) rfl g38 (OpV.t (v_move rfl) ?_)
          refine op_take rfl rfl (dj := 19) rfl g38 (OpV.t (v_move rfl) ?_)
          refine cal_inv h fun y39 hy39 h => ?_
          refine op_take rfl rfl (dj := 19) rfl g38 (OpV.t (v_idxS y39 st9 rfl rfl hy39) ?_)
          refine op_take rfl rfl (dj := 19) rfl g38 (OpV.t (v_geq8 rfl rfl) ?_)
          refine op_take rfl rfl (dj := 19) rfl g38 (OpV.t (v_move rfl) ?_)
          refine rl_j (ι := Bool) (γ := Unit) (fun q40 g40 => [(29, isv (q40))]) (fun q40 g40 => []) .nil h 5 rfl (fun q40 g40 h => ?_) (fun J41 h hJ41 => ?_)
          · skip
            refine op_take rfl rfl (dj := 14) rfl g33 (OpV.t (v_pick_f rfl g38 rfl) ?_)
            exact hJ37 _ () h _ (join_imp 7 rfl rfl (mod_cons (j := 30) rfl (fun _ _ h => h) mod_nil) .nil)
          · skip
            refine rl_condM (j := 24) h rfl (fun g42 h => ?_) (fun g42 h => ?_)
            · skip
              refine op_take rfl rfl (dj := 24) rfl g42 (OpV.t (v_move rfl) ?_)
              refine op_take rfl rfl (dj := 24) rfl g42 (OpV.t (v_move rfl) ?_)
              refine cal_inv h fun y43 hy43 h => ?_
              refine op_take rfl rfl (dj := 24) rfl g42 (OpV.t (v_idxS y43 st9 rfl rfl hy43) ?_)
              refine op_take rfl rfl (dj := 24) rfl g42 (OpV.t (v_leq8 rfl rfl) ?_)
              refine op_take rfl rfl (dj := 19) rfl g38 (OpV.t (v_pick_t rfl g42 rfl) ?_)
              exact hJ41 _ () h _ (join_imp 5 rfl rfl (mod_cons (j := 29) rfl (fun _ _ h => h) mod_nil) .nil)
            · skip
              refine op_pass rfl (dj := 24) rfl g42 ?_
              refine op_pass rfl (dj := 24) rfl g42 ?_
              refine op_pass rfl (dj := 24) rfl g42 ?_
              refine op_pass rfl (dj := 24) rfl g42 ?_
              refine op_take rfl rfl (dj := 19) rfl g38 (OpV.t (v_pick_f rfl g42 rfl) ?_)
              exact hJ41 _ () h _ (join_imp 5 rfl rfl (mod_cons (j := 29) rfl (fun _ _ h => h) mod_nil) .nil)
    · skip
      refine op_pass rfl (dj := 14) rfl g33 ?_
      refine op_pass rfl (dj := 14) rfl g33 ?_
      refine op_pass rfl (dj := 14) rfl g33 ?_
      refine op_pass rfl (dj := 14) rfl g33 ?_
      refine op_pass rfl (dj := 14) rfl g33 ?_
      refine op_passU rfl (dj := 19) rfl ?_
      refine op_passU rfl (dj := 19) rfl ?_
      refine op_passU rfl (dj := 19) rfl ?_
      refine op_passU rfl (dj := 19) rfl ?_
      refine op_passU rfl (dj := 19) rfl ?_
      refine op_passU rfl (dj := 24) rfl ?_
      refine op_passU rfl (dj := 24) rfl ?_
      refine op_passU rfl (dj := 24) rfl ?_
      refine op_passU rfl (dj := 24) rfl ?_
      refine op_passU rfl (dj := 19) rfl ?_
      refine op_pass rfl (dj := 14) rfl g33 ?_
      refine op_cons rfl (OpV.t (v_pick_f rfl g33 rfl) ?_)
      exact hJ32 _ () h _ (join_imp 17 rfl rfl (mod_cons (j := 31) rfl (fun _ _ h => h) mod_nil) .nil)


theorem r04_quoted_w : ∀ {a_s : Str} {a_i : Int} {r : Int × Str}, r04_quoted a_s a_i = some r → Ctr Tryd.prog 58 [isv (a_s), isv (a_i)] [] (fun R H => R = oneOf [isv (r.1), isv (r.2)] ∧ H = []) := by
  intro a_s a_i r h
  unfold r04_quoted at h
  refine spec_intro Tryd.func58 rfl (by decide +kernel) (by rfl) fun w0 S0 hT => ?_
  refine w_seq ?_
  refine w_region ?_
  refine op_cons rfl (OpV.t (v_assign rfl) ?_)
  refine op_cons rfl (OpV.t (v_assign rfl) ?_)
  refine rl_nil ?_
  refine fin_nxt ?_
  refine w_seq ?_
  refine w_region ?_
  refine op_cons rfl (OpV.t (v_assign rfl) ?_)
  refine rl_nil ?_
  refine fin_nxt ?_
  refine w_seq ?_
  refine w_seq ?_
  refine w_region ?_
  refine op_cons rfl (OpV.t (v_move rfl) ?_)
  refine ck_inv h fun q1 h => ?_
  refine op_cons rfl (OpV.t (v_add rfl rfl q1) ?_)
  refine op_cons rfl (OpV.t (v_assign rfl) ?_)
  refine rl_nil ?_
  refine fin_nxt ?_
  refine w_block ?_
  refine w_lp (ι := Int × Str) (γ := Unit) (fun q2 g2 => [(1, isv (q2.1)), (6, isv (q2.2))]) (fun q2 g2 => []) h () (mod_cons (j := 1) rfl (fun _ _ h => h) (mod_cons (j := 6) rfl (fun _ _ h => h) mod_nil)) .nil (fun L3 q2 g2 Q30 h hL3 eL3 rL3 => ?_)
  refine w_seq ?_
  refine w_seq ?_
  refine w_region ?_
  refine op_cons rfl (OpV.t (v_move rfl) ?_)
  refine op_cons rfl (OpV.t (v_move rfl) ?_)
  refine op_cons rfl (OpV.t (v_lenS st9 rfl) ?_)
  refine op_cons rfl (OpV.t (v_lss rfl rfl) ?_)
  refine rl_nil ?_
  refine fin_nxt ?_
  refine w_condM h rfl (fun _ h => ?_) (fun _ h => ?_)
  · skip
    refine w_skip ?_
    refine fin_nxt ?_
    refine w_seq ?_
    refine w_J (ι := Int × Str) (γ := Unit) (fun q17 g17 => [(1, isv (q17.1)), (6, isv (q17.2))]) (fun q17 g17 => []) .nil h (fun q17 g17 h => ?_) (fun J18 h hJ18 => ?_)
    · skip
      refine w_region ?_
      refine op_cons rfl (OpV.t (v_move rfl) ?_)
      refine ck_inv h fun q29 h => ?_
      refine op_cons rfl (OpV.t (v_add rfl rfl q29) ?_)
      refine op_cons rfl (OpV.t (v_assign rfl) ?_)
      refine rl_nil ?_
      exact hL3 _ () h _ (join_imp 11 rfl rfl (mod_cons (j := 1) rfl (fun _ _ h => h) (mod_cons (j := 6) rfl (fun _ _ h => h) mod_nil)) .nil)
    · skip
      refine w_block ?_
      refine w_seq ?_
      refine w_seq ?_
      refine w_region ?_
      refine op_cons rfl (OpV.t (v_move rfl) ?_)
      refine op_cons rfl (OpV.t (v_move rfl) ?_)
      refine cal_inv h fun y19 hy19 h => ?_
      refine op_cons rfl (OpV.t (v_idxS y19 st9 rfl rfl hy19) ?_)
      refine op_cons rfl (OpV.t (v_neA eq5 rfl rfl) ?_)
      refine rl_nil ?_
      refine fin_nxt ?_
      refine w_condM h rfl (fun _ h => ?_) (fun _ h => ?_)
      · skip
        refine w_seq ?_
        refine w_region ?_
        refine op_cons rfl (OpV.t (v_move rfl) ?_)
        refine op_cons rfl (OpV.t (v_move rfl) ?_)
        refine op_cons rfl (OpV.t (v_move rfl) ?_)
        refine op_cons rfl (OpV.t (v_move rfl) ?_)
        refine ck_inv h fun q20 h => ?_
        refine op_cons rfl (OpV.t (v_add rfl rfl q20) ?_)
        refine asd_inv h fun q21 h => ?_
        refine op_cons rfl (OpV.t (v_slS st9 rfl (.inr ⟨_, rfl, rfl⟩) (.inr ⟨_, rfl, rfl⟩) q21.1 q21.2.1 q21.2.2) ?_)
        refine asr_inv h fun q22 h => ?_
        refine op_cons rfl (OpV.t (v_cat rfl rfl q22) ?_)
        refine op_cons rfl (OpV.t (v_assign rfl) ?_)
        refine rl_nil ?_
        refine fin_nxt ?_
        refine w_exit ?_
        refine exi_nxt ?_
        refine exi_block ?_
        exact hJ18 _ () h _ (join_imp 12 rfl rfl (mod_cons (j := 1) rfl (fun _ _ h => h) (mod_cons (j := 6) rfl (fun _ _ h => h) mod_nil)) .nil)
      · skip
        refine w_skip ?_
        refine fin_nxt ?_
        refine w_seq ?_
        refine w_seq ?_
        refine w_region ?_
        refine op_cons rfl (OpV.t (v_move rfl) ?_)
        refine op_cons rfl (OpV.t (v_move rfl) ?_)
        refine ck_inv h fun q23 h => ?_
        refine op_cons rfl (OpV.t (v_add rfl rfl q23) ?_)
        refine cal_inv h fun y24 hy24 h => ?_
        refine op_cons rfl (t_call (r04_at_w hy24) hT (.same rfl (.same rfl .nil)) .nil (fun R H' hR => ?_))
        obtain ⟨rfl, rfl⟩ := hR
        refine op_cons rfl (OpV.t (v_neA eq5 rfl rfl) ?_)
        refine rl_nil ?_
        refine fin_nxt ?_
        refine w_condM h rfl (fun _ h => ?_) (fun _ h => ?_)
        · skip
          refine w_seq ?_
          refine w_seq ?_
          refine w_region ?_
          refine op_cons rfl (OpV.t (v_move rfl) ?_)
          refine cal_inv h fun y25 hy25 h => ?_
          refine op_cons rfl (t_call (utf8_ValidString_w hy25) hT (.same rfl .nil) .nil (fun R H' hR => ?_))
          obtain ⟨rfl, rfl⟩ := hR
          refine op_cons rfl (OpV.t (v_not rfl) ?_)
          refine rl_nil ?_
          refine fin_nxt ?_
          refine w_condM h rfl (fun _ h => ?_) (fun _ h => ?_)
          · skip
            refine w_seq ?_
            refine w_region ?_
            refine op_cons rfl (OpV.t (v_assign rfl) ?_)
            refine op_cons rfl (OpV.t (v_assign rfl) ?_)
            refine rl_nil ?_
            refine fin_nxt ?_
            refine w_ret ?_
            refine ret_nxt ?_
            refine ret_nxt ?_
            refine ret_block ?_
            refine ret_nxt ?_
            refine rL3 _ ?_
            refine ret_block ?_
            refine ret_nxt ?_
            refine ret_post (.tmp rfl (.tmp rfl .nil)) .nil ?_
            obtain rfl := Option.some.inj h
            exact ⟨rfl, rfl⟩
          · skip
            refine w_skip ?_
            refine fin_nxt ?_
            refine w_seq ?_
            refine w_region ?_
            refine op_cons rfl (OpV.t (v_move rfl) ?_)
            refine ck_inv h fun q26 h => ?_
            refine op_cons rfl (OpV.t (v_add rfl rfl q26) ?_)
            refine op_cons rfl (OpV.t (v_move rfl) ?_)
            refine op_cons rfl (OpV.t (v_assign rfl) ?_)
            refine op_cons rfl (OpV.t (v_assign rfl) ?_)
            refine rl_nil ?_
            refine fin_nxt ?_
            refine w_ret ?_
            refine ret_nxt ?_
            refine ret_block ?_
            refine ret_nxt ?_
            refine rL3 _ ?_
            refine ret_block ?_
            refine ret_nxt ?_
            refine ret_post (.tmp rfl (.tmp rfl .nil)) .nil ?_
            obtain rfl := Option.some.inj h
            exact ⟨rfl, rfl⟩
        · skip
          refine w_skip ?_
          refine fin_nxt ?_
          refine w_seq ?_
          refine w_region ?_
          refine op_cons rfl (OpV.t (v_move rfl) ?_)
          refine asr_inv h fun q27 h => ?_
          refine op_cons rfl (OpV.t (v_cat rfl rfl q27) ?_)
          refine op_cons rfl (OpV.t (v_assign rfl) ?_)
          refine rl_nil ?_
          refine fin_nxt ?_
          refine w_region ?_
          refine op_cons rfl (OpV.t (v_move rfl) ?_)
          refine ck_inv h fun q28 h => ?_
          refine op_cons rfl (OpV.t (v_add rfl rfl q28) ?_)
          refine op_cons rfl (OpV.t (v_assign rfl) ?_)
          refine rl_nil ?_
          refine fin_block ?_
          exact hJ18 _ () h _ (join_imp 15 rfl rfl (mod_cons (j := 1) rfl (fun _ _ h => h) (mod_cons (j := 6) rfl (fun _ _ h => h) mod_nil)) .nil)
  · skip
    refine w_exit ?_
    refine exi_nxt ?_
    refine eL3 _ _ ?_
    refine exi_block ?_
    refine fin_nxt ?_
    refine w_seq ?_
    refine w_region ?_
    refine op_cons rfl (OpV.t (v_assign rfl) ?_)
    refine op_cons rfl (OpV.t (v_assign rfl) ?_)
    refine rl_nil ?_
    refine fin_nxt ?_
    refine w_ret ?_
    refine ret_post (.tmp rfl (.tmp rfl .nil)) .nil ?_
    obtain rfl := Option.some.inj h
    exact ⟨rfl, rfl⟩


theorem r04_sign_w : ∀ {a_s : Str} {a_i : Int} {r : Int}, r04_sign a_s a_i = some r → Ctr Tryd.prog 59 [isv (a_s), isv (a_i)] [] (fun R H => R = oneOf [isv (r)] ∧ H = []) := by
  intro a_s a_i r h
  unfold r04_sign at h
  refine spec_intro Tryd.func59 rfl (by decide +kernel) (by rfl) fun w0 S0 hT => ?_
  refine w_seq ?_
  refine w_region ?_
  refine op_cons rfl (OpV.t (v_assign rfl) ?_)
  refine rl_nil ?_
  refine fin_nxt ?_
  refine w_seq ?_
  refine w_region ?_
  refine op_cons rfl (OpV.t (v_move rfl) ?_)
  refine op_cons rfl (OpV.t (v_move rfl) ?_)
  refine asd_inv h fun q1 h => ?_
  refine op_cons rfl (OpV.t (v_slS st9 rfl (.inr ⟨_, rfl, rfl⟩) (.inl ⟨rfl, rfl⟩) q1.1 q1.2.1 q1.2.2) ?_)
  refine op_cons rfl (OpV.t (v_assign rfl) ?_)
  refine rl_nil ?_
  refine fin_nxt ?_
  refine w_seq ?_
  refine w_region ?_
  refine op_cons rfl (t_buildSlice (l := ([(Str.mk [58, 58, 61]), (Str.mk [46, 46, 46]), (Str.mk [46, 46]), (Str.mk [91, 91]), (Str.mk [93, 93]), (Str.mk [123]), (Str.mk [125]), (Str.mk [91]), (Str.mk [93]), (Str.mk [40]), (Str.mk [41]), (Str.mk [44]), (Str.mk [58])] : (List Str))) el22 (.cons rfl (fun _ _ h => h) (.cons rfl (fun _ _ h => h) (.cons rfl (fun _ _ h => h) (.cons rfl (fun _ _ h => h) (.cons rfl (fun _ _ h => h) (.cons rfl (fun _ _ h => h) (.cons rfl (fun _ _ h => h) (.cons rfl (fun _ _ h => h) (.cons rfl (fun _ _ h => h) (.cons rfl (fun _ _ h => h) (.cons rfl (fun _ _ h => h) (.cons rfl (fun _ _ h => h) (.cons rfl (fun _ _ h => h) .nil))))))))))))) rfl rfl ?_)
  refine op_cons rfl (OpV.t (v_assign rfl) ?_)
  refine rl_nil ?_
  refine fin_nxt ?_
  refine w_seq ?_
  refine w_seq ?_
  refine w_region ?_
  refine op_cons rfl (OpV.t (v_assign rfl) ?_)
  refine rl_nil ?_
  refine fin_nxt ?_
  refine w_block ?_
  refine w_lp (ι := Int) (γ := Unit) (fun q3 g3 => [(7, isv (q3))]) (fun q3 g3 => []) h () (mod_cons (j := 7) rfl (fun _ _ h => h) mod_nil) .nil (fun L4 q3 g3 Q19 h hL4 eL4 rL4 => ?_)
  refine w_seq ?_
  refine w_seq ?_
  refine w_region ?_
  refine op_cons rfl (OpV.t (v_move rfl) ?_)
  refine op_cons rfl (OpV.t (v_move rfl) ?_)
  refine op_cons rfl (OpV.t (v_ln (l := ([(Str.mk [58, 58, 61]), (Str.mk [46, 46, 46]), (Str.mk [46, 46]), (Str.mk [91, 91]), (Str.mk [93, 93]), (Str.mk [123]), (Str.mk [125]), (Str.mk [91]), (Str.mk [93]), (Str.mk [40]), (Str.mk [41]), (Str.mk [44]), (Str.mk [58])] : (List Str))) rfl appv_isv sl22) ?_)
  refine op_cons rfl (OpV.t (v_lss rfl rfl) ?_)
  refine rl_nil ?_
  refine fin_nxt ?_
  refine w_condM h rfl (fun _ h => ?_) (fun _ h => ?_)
  · skip
    refine w_skip ?_
    refine fin_nxt ?_
    refine w_seq ?_
    refine w_block ?_
    refine w_seq ?_
    refine w_region ?_
    refine op_cons rfl (OpV.t (v_move rfl) ?_)
    refine op_cons rfl (OpV.t (v_move rfl) ?_)
    refine cal_inv h fun y12 hy12 h => ?_
    refine op_cons rfl (OpV.t (v_ix (l := ([(Str.mk [58, 58, 61]), (Str.mk [46, 46, 46]), (Str.mk [46, 46]), (Str.mk [91, 91]), (Str.mk [93, 93]), (Str.mk [123]), (Str.mk [125]), (Str.mk [91]), (Str.mk [93]), (Str.mk [40]), (Str.mk [41]), (Str.mk [44]), (Str.mk [58])] : (List Str))) rfl appv_isv rfl sl22 hy12) ?_)
    refine op_cons rfl (OpV.t (v_loadI ty9 rfl) ?_)
    refine op_cons rfl (OpV.t (v_lenS st9 rfl) ?_)
    refine op_cons rfl (OpV.t (v_assign rfl) ?_)
    refine rl_nil ?_
    refine fin_nxt ?_
    refine w_seq ?_
    refine w_regionD (.v 0 (.v 1 (.v 2 (.v 3 (.v 4 (.v 5 (.v 6 (.v 7 (.v 8 (.v 9 (.v 10 (.v 11 (.v 12 (.v 13 .nil)))))))))))))) moOrd (by kernel_rfl) ?_
    refine rd_v rfl (v_move rfl) ?_
    refine rd_v rfl (v_lenS st9 rfl) ?_
    refine rd_v rfl (v_move rfl) ?_
    refine rd_v rfl (v_geq rfl rfl) ?_
    refine rd_v rfl (v_move rfl) ?_
    refine rd_j (ι := Bool) (γ := Unit) (fun q13 g13 => [(37, isv (q13))]) (fun q13 g13 => []) .nil h 9 rfl (fun q13 g13 h => ?_) (fun J14 h hJ14 => ?_)
    · skip
      refine rd_nil ?_
      refine fin_nxt ?_
      refine w_condM h rfl (fun _ h => ?_) (fun _ h => ?_)
      · skip
        refine w_seq ?_
        refine w_region ?_
        refine op_cons rfl (OpV.t (v_move rfl) ?_)
        refine op_cons rfl (OpV.t (v_assign rfl) ?_)
        refine rl_nil ?_
        refine fin_nxt ?_
        refine w_ret ?_
        refine ret_block ?_
        refine ret_nxt ?_
        refine rL4 _ ?_
        refine ret_block ?_
        refine ret_nxt ?_
        refine ret_post (.tmp rfl .nil) .nil ?_
        obtain rfl := Option.some.inj h
        exact ⟨rfl, rfl⟩
      · skip
        refine w_skip ?_
        refine fin_block ?_
        refine fin_nxt ?_
        refine w_region ?_
        refine op_cons rfl (OpV.t (v_move rfl) ?_)
        refine ck_inv h fun q18 h => ?_
        refine op_cons rfl (OpV.t (v_add rfl rfl q18) ?_)
        refine op_cons rfl (OpV.t (v_assign rfl) ?_)
        refine rl_nil ?_
        exact hL4 _ () h _ (join_imp 20 rfl rfl (mod_cons (j := 7) rfl (fun _ _ h => h) mod_nil) .nil)
    · skip
      refine rd_condM (j := 28) h rfl (fun g15 h => ?_) (fun g15 h => ?_)
      · skip
        refine rd_vt rfl rfl (dj := 28) rfl g15 (v_move rfl) ?_
        refine rd_vt rfl rfl (dj := 28) rfl g15 (v_move rfl) ?_
        refine asd_inv h fun q16 h => ?_
        refine rd_vt rfl rfl (dj := 28) rfl g15 (v_slS st9 rfl (.inl ⟨rfl, rfl⟩) (.inr ⟨_, rfl, rfl⟩) q16.1 q16.2.1 q16.2.2) ?_
        refine rd_vt rfl rfl (dj := 28) rfl g15 (v_move rfl) ?_
        refine rd_vt rfl rfl (dj := 28) rfl g15 (v_move rfl) ?_
        refine cal_inv h fun y17 hy17 h => ?_
        refine rd_vt rfl rfl (dj := 28) rfl g15 (v_ix (l := ([(Str.mk [58, 58, 61]), (Str.mk [46, 46, 46]), (Str.mk [46, 46]), (Str.mk [91, 91]), (Str.mk [93, 93]), (Str.mk [123]), (Str.mk [125]), (Str.mk [91]), (Str.mk [93]), (Str.mk [40]), (Str.mk [41]), (Str.mk [44]), (Str.mk [58])] : (List Str))) rfl appv_isv rfl sl22 hy17) ?_
        refine rd_vt rfl rfl (dj := 28) rfl g15 (v_loadI ty9 rfl) ?_
        refine rd_vt rfl rfl (dj := 28) rfl g15 (v_eqA eq9 rfl rfl) ?_
        refine rd_v rfl (v_pick_t rfl g15 rfl) ?_
        exact hJ14 _ () h _ (join_imp 9 rfl rfl (mod_cons (j := 37) rfl (fun _ _ h => h) mod_nil) .nil)
      · skip
        refine rd_passV rfl rfl (dj := 28) rfl g15 ?_
        refine rd_passV rfl rfl (dj := 28) rfl g15 ?_
        refine rd_passV rfl rfl (dj := 28) rfl g15 ?_
        refine rd_passV rfl rfl (dj := 28) rfl g15 ?_
        refine rd_passV rfl rfl (dj := 28) rfl g15 ?_
        refine rd_passV rfl rfl (dj := 28) rfl g15 ?_
        refine rd_passV rfl rfl (dj := 28) rfl g15 ?_
        refine rd_passV rfl rfl (dj := 28) rfl g15 ?_
        refine rd_v rfl (v_pick_f rfl g15 rfl) ?_
        exact hJ14 _ () h _ (join_imp 9 rfl rfl (mod_cons (j := 37) rfl (fun _ _ h => h) mod_nil) .nil)
  · skip
    refine w_exit ?_
    refine exi_nxt ?_
    refine eL4 _ _ ?_
    refine exi_block ?_
    refine fin_nxt ?_
    refine w_seq ?_
    refine w_region ?_
    refine op_cons rfl (OpV.t (v_assign rfl) ?_)
    refine rl_nil ?_
    refine fin_nxt ?_
    refine w_ret ?_
    refine ret_post (.tmp rfl .nil) .nil ?_
    obtain rfl := Option.some.inj h
    exact ⟨rfl, rfl⟩

end Go.Proofs.YtdcdndflfhaejaaDoor
