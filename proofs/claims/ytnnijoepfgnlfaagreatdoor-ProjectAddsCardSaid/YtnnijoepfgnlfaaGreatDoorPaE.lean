/- Walks, printed by mill.py. -/
import Derived.Test.YtnnijoepfgnlfaaGreatDoorPaA
import Derived.Test.YtnnijoepfgnlfaaGreatDoorPaB
import Derived.Test.YtnnijoepfgnlfaaGreatDoorPaC
import Derived.Test.YtnnijoepfgnlfaaGreatDoorPaD
set_option linter.unusedVariables false
set_option linter.unusedSimpArgs false

namespace Go.Proofs.YtnnijoepfgnlfaaGreatDoor
open Go.Sy
set_option maxRecDepth 4000
theorem r07_Find_w : ∀ {a_m : GMod} {a_name : Str} {r : Int}, r07_Find a_m a_name = some r → Ctr Tryz.prog 112 [isv (a_m), isv (a_name)] [] (fun R H => R = oneOf [isv (r)] ∧ H = []) := by
 intro a_m a_name r h
 unfold r07_Find at h
 refine spec_intro Tryz.func112 rfl (by decide +kernel) (by rfl) fun w0 S0 hT => ?_
 refine wsr (oT (t_boxIC (y := a_m) rfl (fun _ _ h => h) (oA rfl (rnf (w_seq ?_)))))
 refine wsr (oA rfl (rnf (w_block (w_lp (ι := Int) (γ := Unit) (fun q1 g1 => [(5, isv (q1))]) (fun q1 g1 => []) h () (mod_cons (j := 5) rfl (fun _ _ h => h) mod_nil) .nil (fun L2 q1 g1 Q7 h hL2 eL2 rL2 => ?_)))))
 refine w_seq (wsr (oM rfl (oV (v_fi rfl GMod.f2 fd73_2 rfl (z := a_m.names)) (oV (v_loadI ty22 rfl) ?_))))
 refine oV (v_ln (l := a_m.names) rfl (fun _ _ h => h) sl22) (oV (v_lss rfl rfl) (rnf (w_condM h rfl (fun _ h => ?_) (fun _ h => ?_))))
 ·
  refine wkf (w_seq (w_block (wsr (oV (v_fi rfl GMod.f2 fd73_2 rfl (z := a_m.names)) ?_))))
  refine oV (v_loadI ty22 rfl) (oM rfl (cal_inv h fun y5 hy5 h => oV (v_ix (l := a_m.names) rfl (fun _ _ h => h) rfl sl22 hy5) (oV (v_loadI ty9 rfl) ?_)))
  refine oM rfl (oV (v_eqA eq9 rfl rfl) (rnf (w_condM h rfl (fun _ h => ?_) (fun _ h => ?_))))
  ·
   refine wsr (oM rfl (oA rfl (rnf (w_ret ?_))))
   refine ret_block (ret_nxt (rL2 _ (ret_block (ret_nxt ?_))))
   refine ret_post (.tmp rfl .nil) .nil ?_
   obtain rfl := Option.some.inj h
   exact ⟨rfl, rfl⟩
  ·
   refine w_skip (fin_block (fin_nxt (w_region (oM rfl ?_))))
   exact ck_inv h fun q6 h => oV (v_add rfl rfl q6) (oA rfl (rl_nil (hL2 _ () h _ (ji 16 5 rfl rfl rfl))))
 ·
  refine w_exit (exi_nxt (eL2 _ _ (exi_block (fin_nxt ?_))))
  refine wsr (oA rfl (rnf (w_ret (ret_post (.tmp rfl .nil) .nil ?_))))
  obtain rfl := Option.some.inj h
  exact ⟨rfl, rfl⟩


theorem h_In_int_w : ∀ {a_l : (List Int)} {a_x : Int} {r : Bool}, h_In_int a_l a_x = some r → Ctr Tryz.prog 111 [isv (a_l), isv (a_x)] [] (fun R H => R = oneOf [isv (r)] ∧ H = []) := by
 intro a_l a_x r h
 unfold h_In_int at h
 refine spec_intro Tryz.func111 rfl (by decide +kernel) (by rfl) fun w0 S0 hT => ?_
 refine wsr (oA rfl (rnf (w_seq (wsr ?_))))
 refine oA rfl (rnf (w_block (w_lp (ι := Int) (γ := Unit) (fun q1 g1 => [(5, isv (q1))]) (fun q1 g1 => []) h () (mod_cons (j := 5) rfl (fun _ _ h => h) mod_nil) .nil (fun L2 q1 g1 Q7 h hL2 eL2 rL2 => w_seq ?_))))
 refine wsr (oM rfl (oM rfl (oV (v_ln (l := a_l) rfl (fun _ _ h => h) sl23) (oV (v_lss rfl rfl) ?_))))
 refine rnf (w_condM h rfl (fun _ h => ?_) (fun _ h => ?_))
 ·
  refine wkf (w_seq (w_block (wsr (oM rfl ?_))))
  refine oM rfl (cal_inv h fun y5 hy5 h => oV (v_ix (l := a_l) rfl (fun _ _ h => h) rfl sl23 hy5) (oV (v_loadI ty3 rfl) (oM rfl ?_)))
  refine oV (v_eql rfl rfl) (rnf (w_condM h rfl (fun _ h => ?_) (fun _ h => ?_)))
  ·
   refine wsr (oA rfl (rnf (w_ret (ret_block ?_))))
   refine ret_nxt (rL2 _ (ret_block (ret_nxt (ret_post (.tmp rfl .nil) .nil ?_))))
   obtain rfl := Option.some.inj h
   exact ⟨rfl, rfl⟩
  ·
   refine w_skip (fin_block (fin_nxt (w_region (oM rfl ?_))))
   exact ck_inv h fun q6 h => oV (v_add rfl rfl q6) (oA rfl (rl_nil (hL2 _ () h _ (ji 14 5 rfl rfl rfl))))
 ·
  refine w_exit (exi_nxt (eL2 _ _ (exi_block (fin_nxt ?_))))
  refine wsr (oA rfl (rnf (w_ret (ret_post (.tmp rfl .nil) .nil ?_))))
  obtain rfl := Option.some.inj h
  exact ⟨rfl, rfl⟩


def r07_uses_C (f' : GMod → Int → Int → (List Int) → Option ((List Int) × Bool)) : Prop :=
 ∀ {a_m : GMod} {a_node : Int} {a_depth : Int} {a_l : (List Int)} {t_a_l : Tok} {r : (List Int) × Bool}, f' a_m a_node a_depth a_l = some r → Ctr Tryz.prog 109 [isv (a_m), isv (a_node), isv (a_depth), appv t_a_l (a_l)] [tokE t_a_l] (fun R H => ∃ u1 : Tok, R = oneOf [appv u1 (r.1), isv (r.2)] ∧ H = [tokE u1])
theorem r07_uses_w0 {r07_uses' : GMod → Int → Int → (List Int) → Option ((List Int) × Bool)} (h_r07_uses : r07_uses_C r07_uses') : ∀ {a_m : GMod} {a_node : Int} {a_depth : Int} {a_l : (List Int)} {t_a_l : Tok} {r : (List Int) × Bool}, r07_uses_F r07_uses' a_m a_node a_depth a_l = some r → Ctr Tryz.prog 109 [isv (a_m), isv (a_node), isv (a_depth), appv t_a_l (a_l)] [tokE t_a_l] (fun R H => ∃ u1 : Tok, R = oneOf [appv u1 (r.1), isv (r.2)] ∧ H = [tokE u1]) := by
 intro a_m a_node a_depth a_l t_a_l r h
 unfold r07_uses_F at h
 refine spec_intro Tryz.func109 rfl (by decide +kernel) (by rfl) fun w0 S0 hT => ?_
 refine wsr (oT (t_boxIC (y := a_m) rfl (fun _ _ h => h) (oA rfl (oA rfl (rnf ?_)))))
 refine w_seq (wsr (oM rfl (oV (v_lss rfl rfl) (oM rfl ?_))))
 refine rl_j (jb 24) je .nil h 6 rfl (fun q1 g1 h => ?_) (fun J2 h hJ2 => ?_)
 ·
  refine oM rfl (rl_j (jb 28) je .nil h 3 rfl (fun q4 g4 h => ?_) (fun J5 h hJ5 => ?_))
  ·
   refine rnf (w_condM h rfl (fun _ h => ?_) (fun _ h => ?_))
   ·
    refine wsr (oM rfl (oA rfl (oA rfl (rnf ?_))))
    refine w_ret (ret_nxt (ret_post (.tmp rfl (.tmp rfl .nil)) (.cons .here .nil) ?_))
    obtain rfl := Option.some.inj h
    exact ⟨t_a_l, rfl, rfl⟩
   ·
    refine wkf (wsr (oV (v_fi rfl GMod.f4 fd73_4 rfl (z := a_m.nodes)) (oV (v_loadI ty71 rfl) (oM rfl ?_))))
    refine cal_inv h fun y7 hy7 h => oV (v_ix (l := a_m.nodes) rfl (fun _ _ h => h) rfl sl71 hy7) (oV (v_loadI ty167 rfl) (oT (t_alloc _ ze167 fun b8 => oT (t_storeC (y' := (y7 : GNode)) ty167 rfl rfl (fun _ _ h => h) .here rfl ?_))))
    refine rl_upd (upd_imm 10 .here rfl) (rnf (w_seq (wsr (oV (v_fi rfl GNode.f0 fd167_0 rfl (z := y7.kind)) ?_))))
    refine oV (v_loadI ty3 rfl) (oV (v_eql rfl rfl) (rnf (w_condM h rfl (fun _ h => ?_) (fun _ h => ?_))))
    ·
     refine wsr (oV (v_loadI ty73 rfl) (oV (v_fi rfl GNode.f1 fd167_1 rfl (z := y7.name)) (oV (v_loadI ty9 rfl) (cal_inv h fun y9 hy9 h => ?_))))
     refine oT (t_call (r07_Find_w hy9) hT (.same rfl (.same rfl .nil)) .nil (fun R H' hR => ?_))
     obtain ⟨rfl, rfl⟩ := hR
     refine oA rfl (rnf (w_seq (wsr (oM rfl ?_))))
     refine oV (v_lss rfl rfl) (rnf (w_condM h rfl (fun _ h => ?_) (fun _ h => ?_)))
     ·
      refine wsr (oM rfl (oA rfl (oA rfl (rnf ?_))))
      refine w_ret (ret_nxt (ret_nxt (ret_post (.tmp rfl (.tmp rfl .nil)) (.cons .here .nil) ?_)))
      obtain rfl := Option.some.inj h
      exact ⟨t_a_l, rfl, rfl⟩
     ·
      refine wkf (w_seq (wsr (oM rfl (oM rfl ?_))))
      refine cal_inv h fun y10 hy10 h => oT (t_call (h_In_int_w hy10) hT (.cons rfl appv_isv (.same rfl .nil)) .nil (fun R H' hR => ?_))
      obtain ⟨rfl, rfl⟩ := hR
      refine oV (v_not rfl) (rnf (w_J (ι := (List Int)) (γ := Tok) (fun q11 g11 => [(3, appv g11 (q11))]) (fun q11 g11 => [tokE g11]) (.cons .here .nil) h (fun q11 g11 h => ?_) (fun J12 h hJ12 => ?_)))
      ·
       refine wsr (oM rfl (oA rfl (oA rfl (rnf ?_))))
       refine w_ret (ret_nxt (ret_post (.tmp rfl (.tmp rfl .nil)) (.cons .here .nil) ?_))
       obtain rfl := Option.some.inj h
       exact ⟨g11, rfl, rfl⟩
      ·
       refine w_condM h rfl (fun _ h => ?_) (fun _ h => ?_)
       ·
        refine w_region (oM rfl (oM rfl (oT (t_buildSlice (l := ([y9] : (List Int))) el23 (.cons rfl (fun _ _ h => h) .nil) rfl rfl (asr_inv h fun q15 h => ?_)))))
        exact oT (t_appC (l := a_l) (m := ([y9] : (List Int))) ap23_23 rfl (fun _ _ h => h) rfl appv_isv .here q15 fun t14 => oA rfl (rl_nil (hJ12 _ (t14) h _ (join_imp 5 rfl rfl (mod_cons (j := 3) rfl (fun _ _ h => h) mod_nil) (.cons .here .nil)))))
       ·
        exact w_skip (hJ12 _ (t_a_l) h _ (join_imp 0 rfl rfl (mod_cons (j := 3) rfl (fun _ _ h => h) mod_nil) (.cons .here .nil)))
    ·
     refine wkf (wsr (oA rfl (rnf (w_seq ?_))))
     refine wsr (oA rfl (rnf (w_block (w_lp (ι := (List Int) × Bool × Int) (γ := Tok) (fun q16 g16 => [(3, appv g16 (q16.1)), (12, isv (q16.2.1)), (13, isv (q16.2.2))]) (fun q16 g16 => [tokE g16]) h (t_a_l) (mod_cons (j := 3) rfl (fun _ _ h => h) (mod_cons (j := 12) rfl (fun _ _ h => h) (mod_cons (j := 13) rfl (fun _ _ h => h) mod_nil))) (.cons .here .nil) (fun L17 q16 g16 Q44 h hL17 eL17 rL17 => ?_)))))
     refine w_seq (wsr (oM rfl (oV (v_fi rfl GNode.f5 fd167_5 rfl (z := y7.fields)) (oV (v_loadI ty85 rfl) ?_))))
     refine oV (v_ln (l := y7.fields) rfl (fun _ _ h => h) sl85) (oV (v_lss rfl rfl) (rnf (w_condM h rfl (fun _ h => ?_) (fun _ h => ?_))))
     ·
      refine wkf (w_seq (w_block (wsr (oA rfl ?_))))
      refine rnf (w_seq (w_regionD (.v 0 (.v 1 (.v 2 (.v 3 (.v 4 (.v 5 (.v 6 (.v 7 (.v 8 (.v 9 (.t 10 (.v 11 (.v 12 (.v 13 (.v 14 (.v 15 .nil)))))))))))))))) moOrd (by kernel_rfl) ?_))
      refine rd_v rfl (v_loadI ty73 rfl) (rd_v rfl (v_fi rfl GNode.f5 fd167_5 rfl (z := y7.fields)) (rd_v rfl (v_loadI ty85 rfl) (rvm rfl rfl (cal_inv h fun y28 hy28 h => ?_))))
      refine rd_v rfl (v_ix (l := y7.fields) rfl (fun _ _ h => h) rfl sl85 hy28) (rd_v rfl (v_fi rfl GFld.f1 fd92_1 rfl (z := y28.ty)) (rd_v rfl (v_loadI ty3 rfl) (rvm rfl rfl (ck_inv h fun q29 h => ?_))))
      refine rd_v rfl (v_add rfl rfl q29) (rvm rfl rfl (cal_inv h fun y30 hy30 h => rd_t rfl rfl (t_call (h_r07_uses hy30) hT (.same rfl (.same rfl (.same rfl (.same rfl .nil)))) (.cons .here .nil) (fun R H' hR => ?_))))
      obtain ⟨t31, rfl, rfl⟩ := hR
      refine rvm rfl rfl (rd_v rfl (v_extract rfl rfl) (rd_v rfl (v_extract rfl rfl) (rd_v rfl (v_assign rfl) (rd_v rfl (v_assign rfl) ?_))))
      refine rd_nil (fin_nxt (w_region (oM rfl (oM rfl ?_))))
      refine rl_j (jb 78) je .nil h 2 rfl (fun q32 g32 h => ?_) (fun J33 h hJ33 => ?_)
      ·
       refine oA rfl (rl_nil (fin_block (fin_nxt (w_region ?_))))
       refine oM rfl (ck_inv h fun q35 h => oV (v_add rfl rfl q35) (oA rfl (rl_nil ?_)))
       exact hL17 _ (t31) h _ (join_imp 32 rfl rfl (mod_cons (j := 3) rfl (fun _ _ h => h) (mod_cons (j := 12) rfl (fun _ _ h => h) (mod_cons (j := 13) rfl (fun _ _ h => h) mod_nil))) (.cons .here .nil))
      ·
       refine rl_condM (j := 76) h rfl (fun g34 h => ?_) (fun g34 h => ?_)
       ·
        exact oP 76 rfl rfl g34 (oV (v_pick_t rfl g34 rfl) (hJ33 _ () h _ (join_imp 2 rfl rfl (mod_cons (j := 78) rfl (fun _ _ h => h) mod_nil) (.cons .here .nil))))
       ·
        exact oK 76 rfl rfl rfl g34 (v_move rfl) (oV (v_pick_f rfl g34 rfl) (hJ33 _ () h _ (join_imp 2 rfl rfl (mod_cons (j := 78) rfl (fun _ _ h => h) mod_nil) (.cons .here .nil))))
     ·
      refine w_exit (exi_nxt (eL17 _ _ (exi_block (fin_nxt ?_))))
      refine w_seq (wsr (oV (v_fi rfl GNode.f0 fd167_0 rfl (z := y7.kind)) (oV (v_loadI ty3 rfl) (oV (v_eql rfl rfl) ?_))))
      refine rnf (w_J (ι := (List Int) × Bool) (γ := Tok) (fun q36 g36 => [(3, appv g36 (q36.1)), (12, isv (q36.2))]) (fun q36 g36 => [tokE g36]) (.cons .here .nil) h (fun q36 g36 h => ?_) (fun J37 h hJ37 => ?_))
      ·
       refine wsr (oM rfl (oM rfl (oA rfl (oA rfl ?_))))
       refine rnf (w_ret (ret_post (.tmp rfl (.tmp rfl .nil)) (.cons .here .nil) ?_))
       obtain rfl := Option.some.inj h
       exact ⟨g36, rfl, rfl⟩
      ·
       refine w_condM h rfl (fun _ h => ?_) (fun _ h => ?_)
       ·
        refine wsr (oA rfl (rnf (wsr (oV (v_loadI ty73 rfl) ?_))))
        refine oV (v_fi rfl GNode.f8 fd167_8 rfl (z := y7.of)) (oV (v_loadI ty3 rfl) (oM rfl (ck_inv h fun q38 h => oV (v_add rfl rfl q38) ?_)))
        refine oM rfl (cal_inv h fun y39 hy39 h => oT (t_call (h_r07_uses hy39) hT (.same rfl (.same rfl (.same rfl (.same rfl .nil)))) (.cons .here .nil) (fun R H' hR => ?_)))
        obtain ⟨t40, rfl, rfl⟩ := hR
        refine oM rfl (oV (v_extract rfl rfl) (oV (v_extract rfl rfl) (oA rfl (oA rfl ?_))))
        refine rnf (w_region (oM rfl (oM rfl (rl_j (jb 95) je .nil h 2 rfl (fun q41 g41 h => ?_) (fun J42 h hJ42 => ?_)))))
        ·
         exact oA rfl (rl_nil (hJ37 _ (t40) h _ (join_imp 17 rfl rfl (mod_cons (j := 3) rfl (fun _ _ h => h) (mod_cons (j := 12) rfl (fun _ _ h => h) mod_nil)) (.cons .here .nil))))
        ·
         refine rl_condM (j := 93) h rfl (fun g43 h => ?_) (fun g43 h => ?_)
         ·
          exact oP 93 rfl rfl g43 (oV (v_pick_t rfl g43 rfl) (hJ42 _ () h _ (join_imp 2 rfl rfl (mod_cons (j := 95) rfl (fun _ _ h => h) mod_nil) (.cons .here .nil))))
         ·
          exact oK 93 rfl rfl rfl g43 (v_move rfl) (oV (v_pick_f rfl g43 rfl) (hJ42 _ () h _ (join_imp 2 rfl rfl (mod_cons (j := 95) rfl (fun _ _ h => h) mod_nil) (.cons .here .nil))))
       ·
        exact w_skip (hJ37 _ (g16) h _ (join_imp 0 rfl rfl (mod_cons (j := 3) rfl (fun _ _ h => h) (mod_cons (j := 12) rfl (fun _ _ h => h) mod_nil)) (.cons .here .nil)))
  ·
   refine rl_condM (j := 25) h rfl (fun g6 h => ?_) (fun g6 h => ?_)
   ·
    exact oP 25 rfl rfl g6 (oP 25 rfl rfl g6 (oV (v_pick_t rfl g6 rfl) (hJ5 _ () h _ (join_imp 3 rfl rfl (mod_cons (j := 28) rfl (fun _ _ h => h) mod_nil) (.cons .here .nil)))))
   ·
    exact oK 25 rfl rfl rfl g6 (v_move rfl) (oK 25 rfl rfl rfl g6 (v_gtr rfl rfl) (oV (v_pick_f rfl g6 rfl) (hJ5 _ () h _ (join_imp 3 rfl rfl (mod_cons (j := 28) rfl (fun _ _ h => h) mod_nil) (.cons .here .nil)))))
 ·
  refine rl_condM (j := 18) h rfl (fun g3 h => ?_) (fun g3 h => ?_)
  ·
   refine oP 18 rfl rfl g3 (oP 18 rfl rfl g3 (oP 18 rfl rfl g3 (oP 18 rfl rfl g3 (oP 18 rfl rfl g3 ?_))))
   exact oV (v_pick_t rfl g3 rfl) (hJ2 _ () h _ (join_imp 6 rfl rfl (mod_cons (j := 24) rfl (fun _ _ h => h) mod_nil) (.cons .here .nil)))
  ·
   refine oK 18 rfl rfl rfl g3 (v_move rfl) (oK 18 rfl rfl rfl g3 (v_fi rfl GMod.f4 fd73_4 rfl (z := a_m.nodes)) (oK 18 rfl rfl rfl g3 (v_loadI ty71 rfl) (oK 18 rfl rfl rfl g3 (v_ln (l := a_m.nodes) rfl (fun _ _ h => h) sl71) (oK 18 rfl rfl rfl g3 (v_geq rfl rfl) ?_))))
   exact oV (v_pick_f rfl g3 rfl) (hJ2 _ () h _ (join_imp 6 rfl rfl (mod_cons (j := 24) rfl (fun _ _ h => h) mod_nil) (.cons .here .nil)))

theorem r07_uses_grp_w : ∀ n, r07_uses_C (r07_uses n)
 | 0 => fun h => (by cases h)
 | n + 1 => r07_uses_w0 (r07_uses_grp_w n)
theorem r07_uses_w (n : Nat) : r07_uses_C (r07_uses n) := (r07_uses_grp_w n)

theorem r07_reach_w : ∀ {a_graph : (List (List Int))} {a_from_ : Int} {a_to : Int} {r : Bool}, r07_reach a_graph a_from_ a_to = some r → Ctr Tryz.prog 110 [isv (a_graph), isv (a_from_), isv (a_to)] [] (fun R H => R = oneOf [isv (r)] ∧ H = []) := by
 intro a_graph a_from_ a_to r h
 unfold r07_reach at h
 refine spec_intro Tryz.func110 rfl (by decide +kernel) (by rfl) fun w0 S0 hT => ?_
 refine wsr (oA rfl (rnf (wsr (oT (t_buildSlice (l := ([] : (List Int))) el23 .nil rfl rfl ?_)))))
 refine oA rfl (rnf (wsr (oM rfl (oM rfl ?_))))
 refine cal_inv h fun y2 hy2 h => oV (v_ix (l := a_graph) rfl (fun _ _ h => h) rfl sl36 hy2) (oV (v_loadI ty23 rfl) (asr_inv h fun q4 h => oT (t_appN (m := y2) ap23_23 rfl rfl (fun _ _ h => h) q4 fun t3 => ?_)))
 refine oA rfl (rnf (w_seq (w_block (w_upd (upd_tok) ?_))))
 refine w_lp (ι := (List Int) × (List Int)) (γ := Tok × Tok) (fun q5 g5 => [(7, appv g5.1 (q5.1)), (8, appv g5.2 (q5.2))]) (fun q5 g5 => [tokE g5.1, tokE g5.2]) h (none, t3) (mod_cons (j := 7) rfl (fun _ _ h => h) (mod_cons (j := 8) rfl (fun _ _ h => h) mod_nil)) (.cons .here (.cons .here .nil)) (fun L6 q5 g5 Q27 h hL6 eL6 rL6 => w_seq (wsr (oM rfl (oV (v_ln (l := q5.2) rfl appv_isv sl23) ?_))))
 refine oV (v_gtr rfl rfl) (rnf (w_condM h rfl (fun _ h => ?_) (fun _ h => ?_)))
 ·
  refine wkf (w_block (wsr (oM rfl (cal_inv h fun y17 hy17 h => ?_))))
  refine oV (v_ix (l := q5.2) rfl appv_isv rfl sl23 hy17) (oV (v_loadI ty3 rfl) (oA rfl (rnf (wsr ?_))))
  refine oM rfl (asd_inv h fun q18 h => oT (t_slA rfl sl23 rfl q18.1 q18.2 (.there .here) fun t19 => oA rfl (rnf ?_)))
  refine w_seq (wsr (oM rfl (oM rfl (oV (v_eql rfl rfl) ?_))))
  refine rnf (w_condM h rfl (fun _ h => ?_) (fun _ h => ?_))
  ·
   refine wsr (oA rfl (rnf (w_ret (ret_nxt ?_))))
   refine ret_block (rL6 _ (ret_block (ret_nxt (ret_post (.tmp rfl .nil) .nil ?_))))
   obtain rfl := Option.some.inj h
   exact ⟨rfl, rfl⟩
  ·
   refine wkf (wsr (oM rfl (oM rfl (cal_inv h fun y20 hy20 h => ?_))))
   refine oT (t_call (h_In_int_w hy20) hT (.cons rfl appv_isv (.same rfl .nil)) .nil (fun R H' hR => ?_))
   obtain ⟨rfl, rfl⟩ := hR
   refine oV (v_not rfl) (rnf (w_condM h rfl (fun _ h => ?_) (fun _ h => ?_)))
   ·
    refine wsr (oM rfl (oM rfl (oT (t_buildSlice (l := ([y17] : (List Int))) el23 (.cons rfl (fun _ _ h => h) .nil) rfl rfl (asr_inv h fun q23 h => ?_)))))
    refine oT (t_appC (l := q5.1) (m := ([y17] : (List Int))) ap23_23 rfl (fun _ _ h => h) rfl appv_isv (.there .here) q23 fun t22 => oA rfl (rnf (w_region (oM rfl ?_))))
    refine oM rfl (oM rfl (cal_inv h fun y24 hy24 h => oV (v_ix (l := a_graph) rfl (fun _ _ h => h) rfl sl36 hy24) (oV (v_loadI ty23 rfl) ?_)))
    refine asr_inv h fun q26 h => oT (t_appC (l := (q5.2.drop ((1 : Int)).toNat)) (m := y24) ap23_23 rfl (fun _ _ h => h) rfl (fun _ _ h => h) (.there .here) q26 fun t25 => oA rfl (rl_nil (fin_block ?_)))
    exact hL6 _ (t22, t25) h _ (join_imp 31 rfl rfl (mod_cons (j := 7) rfl (fun _ _ h => h) (mod_cons (j := 8) rfl (fun _ _ h => h) mod_nil)) (.cons (.there .here) (.cons .here .nil)))
   ·
    exact w_skip (fin_block (hL6 _ (g5.1, t19) h _ (join_imp 19 rfl rfl (mod_cons (j := 7) rfl (fun _ _ h => h) (mod_cons (j := 8) rfl (fun _ _ h => h) mod_nil)) (.cons (.there .here) (.cons .here .nil)))))
 ·
  refine w_exit (exi_nxt (eL6 _ _ (exi_block (fin_nxt ?_))))
  refine wsr (oA rfl (rnf (w_ret (ret_post (.tmp rfl .nil) .nil ?_))))
  obtain rfl := Option.some.inj h
  exact ⟨rfl, rfl⟩


theorem r07_Order_w : ∀ {a_m : GMod} {r : (List Int) × Int × Int}, r07_Order a_m = some r → Ctr Tryz.prog 76 [isv (a_m)] [] (fun R H => R = oneOf [isv (r.1), isv (r.2.1), isv (r.2.2)] ∧ H = []) := by
 intro a_m r h
 unfold r07_Order at h
 refine spec_intro Tryz.func76 rfl (by decide +kernel) (by rfl) fun w0 S0 hT => ?_
 refine wsr (oT (t_boxIC (y := a_m) rfl (fun _ _ h => h) (oA rfl (oA rfl (oA rfl ?_)))))
 refine rnf (wsr (oA rfl (rnf (wsr ?_))))
 refine oA rfl (rnf (w_seq (wsr (oA rfl ?_))))
 refine rnf (w_block (w_lp (ι := Int) (γ := Unit) (fun q1 g1 => [(7, isv (q1))]) (fun q1 g1 => []) h () (mod_cons (j := 7) rfl (fun _ _ h => h) mod_nil) .nil (fun L2 q1 g1 Q1603 h hL2 eL2 rL2 => w_seq (wsr ?_))))
 refine oM rfl (oV (v_fi rfl GMod.f2 fd73_2 rfl (z := a_m.names)) (oV (v_loadI ty22 rfl) (oV (v_ln (l := a_m.names) rfl (fun _ _ h => h) sl22) (oV (v_lss rfl rfl) ?_))))
 refine rnf (w_condM h rfl (fun _ h => ?_) (fun _ h => ?_))
 ·
  refine wkf (w_seq (w_block (w_seq (w_regionD (.v 0 (.v 1 (.v 2 (.v 3 (.v 4 (.v 5 (.v 6 (.v 7 (.v 8 (.t 9 .nil)))))))))) moOrd (by kernel_rfl) ?_))))
  refine rd_v rfl (v_fi rfl GMod.f2 fd73_2 rfl (z := a_m.names)) (rd_v rfl (v_loadI ty22 rfl) (rvm rfl rfl (asd_inv h fun q803 h => rd_v rfl (v_sl (l := a_m.names) rfl (fun _ _ h => h) sl22 (.inl ⟨rfl, rfl⟩) (.inr ⟨_, rfl, rfl⟩) q803.1 q803.2.1 q803.2.2) ?_)))
  refine rd_v rfl (v_fi rfl GMod.f2 fd73_2 rfl (z := a_m.names)) (rd_v rfl (v_loadI ty22 rfl) (rvm rfl rfl (cal_inv h fun y804 hy804 h => rd_v rfl (v_ix (l := a_m.names) rfl (fun _ _ h => h) rfl sl22 hy804) ?_)))
  refine rd_v rfl (v_loadI ty9 rfl) (cal_inv h fun y805 hy805 h => rd_t rfl rfl (t_call (h_In_string_w hy805) hT (.same rfl (.same rfl .nil)) .nil (fun R H' hR => ?_)))
  obtain ⟨rfl, rfl⟩ := hR
  refine rd_nil (fin_nxt (w_condM h rfl (fun _ h => ?_) (fun _ h => ?_)))
  ·
   refine wsr (oM rfl (oA rfl (oA rfl (oA rfl ?_))))
   refine rnf (w_ret (ret_block (ret_nxt (rL2 _ ?_))))
   refine ret_block (ret_nxt (ret_post (.as rfl (nilv_isv (α := Int)) (.tmp rfl (.tmp rfl .nil))) .nil ?_))
   obtain rfl := Option.some.inj h
   exact ⟨rfl, rfl⟩
  ·
   refine w_skip (fin_block (fin_nxt (w_region (oM rfl ?_))))
   exact ck_inv h fun q806 h => oV (v_add rfl rfl q806) (oA rfl (rl_nil (hL2 _ () h _ (ji 19 7 rfl rfl rfl))))
 ·
  refine w_exit (exi_nxt (eL2 _ _ (exi_block (fin_nxt ?_))))
  refine w_seq (wsr (oA rfl (rnf (w_block ?_))))
  refine w_upd (upd_tok) (w_lp (ι := (List (List Int)) × Int × Int) (γ := Tok) (fun q807 g807 => [(5, appv g807 (q807.1)), (6, isv (q807.2.1)), (8, isv (q807.2.2))]) (fun q807 g807 => [tokE g807]) h (none) (mod_cons (j := 5) rfl nilv_appv (mod_cons (j := 6) rfl (fun _ _ h => h) (mod_cons (j := 8) rfl (fun _ _ h => h) mod_nil))) (.cons .here .nil) (fun L808 q807 g807 Q1602 h hL808 eL808 rL808 => w_seq (wsr (oM rfl ?_))))
  refine oV (v_fi rfl GMod.f2 fd73_2 rfl (z := a_m.names)) (oV (v_loadI ty22 rfl) (oV (v_ln (l := a_m.names) rfl (fun _ _ h => h) sl22) (oV (v_lss rfl rfl) (rnf ?_))))
  refine w_condM h rfl (fun _ h => ?_) (fun _ h => ?_)
  ·
   refine wkf (w_seq (w_J (ι := (List (List Int)) × Int) (γ := Tok) (fun q1337 g1337 => [(5, appv g1337 (q1337.1)), (6, isv (q1337.2))]) (fun q1337 g1337 => [tokE g1337]) (.cons .here .nil) h (fun q1337 g1337 h => ?_) (fun J1338 h hJ1338 => ?_)))
   ·
    refine w_region (oM rfl (ck_inv h fun q1349 h => oV (v_add rfl rfl q1349) (oA rfl ?_)))
    exact rl_nil (hL808 _ (g1337) h _ (join_imp 13 rfl rfl (mod_cons (j := 5) rfl (fun _ _ h => h) (mod_cons (j := 6) rfl (fun _ _ h => h) (mod_cons (j := 8) rfl (fun _ _ h => h) mod_nil))) (.cons .here .nil)))
   ·
    refine w_block (w_seq (w_regionD (.v 0 (.v 1 (.v 2 (.v 3 (.v 4 (.v 5 (.t 6 (.v 7 (.v 8 (.v 9 (.v 10 (.v 11 .nil)))))))))))) moOrd (by kernel_rfl) ?_))
    refine rd_v rfl (v_loadI ty73 rfl) (rd_v rfl (v_fi rfl GMod.f3 fd73_3 rfl (z := a_m.types)) (rd_v rfl (v_loadI ty23 rfl) (rvm rfl rfl (cal_inv h fun y1339 hy1339 h => ?_))))
    refine rd_v rfl (v_ix (l := a_m.types) rfl (fun _ _ h => h) rfl sl23 hy1339) (rd_v rfl (v_loadI ty3 rfl) (rd_upd (upd_tok) (cal_inv h fun y1341 hy1341 h => rd_t rfl rfl (t_call (r07_uses_w fuel hy1341) hT (.same rfl (.same rfl (.same rfl (.cons rfl nilv_appv .nil)))) (.cons .here .nil) (fun R H' hR => ?_)))))
    obtain ⟨t1342, rfl, rfl⟩ := hR
    refine rvm rfl rfl (rd_v rfl (v_extract rfl rfl) (rd_v rfl (v_extract rfl rfl) (rd_v rfl (v_assign rfl) (rd_v rfl (v_assign rfl) ?_))))
    refine rd_nil (fin_nxt (wsr (oM rfl (oM rfl ?_))))
    refine oT (t_buildSlice (l := ([y1341.1] : (List (List Int)))) el36 (.cons rfl appv_isv .nil) rfl rfl (asr_inv h fun q1345 h => oT (t_appC (l := q807.1) (m := ([y1341.1] : (List (List Int)))) ap36_36 rfl (fun _ _ h => h) rfl appv_isv (.there .here) q1345 fun t1344 => oA rfl (rnf ?_))))
    refine wsr (oM rfl (oM rfl (rl_j (jb 59) je .nil h 3 rfl (fun q1346 g1346 h => ?_) (fun J1347 h hJ1347 => ?_))))
    ·
     refine rnf (w_condM h rfl (fun _ h => ?_) (fun _ h => ?_))
     ·
      refine w_region (oM rfl (oA rfl (rl_nil (fin_block ?_))))
      exact hJ1338 _ (t1344) h _ (join_imp 22 rfl rfl (mod_cons (j := 5) rfl (fun _ _ h => h) (mod_cons (j := 6) rfl (fun _ _ h => h) mod_nil)) (.cons .here .nil))
     ·
      exact w_skip (fin_block (hJ1338 _ (t1344) h _ (join_imp 20 rfl rfl (mod_cons (j := 5) rfl (fun _ _ h => h) (mod_cons (j := 6) rfl (fun _ _ h => h) mod_nil)) (.cons .here .nil))))
    ·
     refine rl_condM (j := 56) h rfl (fun g1348 h => ?_) (fun g1348 h => ?_)
     ·
      exact oK 56 rfl rfl rfl g1348 (v_move rfl) (oK 56 rfl rfl rfl g1348 (v_lss rfl rfl) (oV (v_pick_t rfl g1348 rfl) (hJ1347 _ () h _ (join_imp 3 rfl rfl (mod_cons (j := 59) rfl (fun _ _ h => h) mod_nil) (.cons .here (.cons .here .nil))))))
     ·
      exact oP 56 rfl rfl g1348 (oP 56 rfl rfl g1348 (oV (v_pick_f rfl g1348 rfl) (hJ1347 _ () h _ (join_imp 3 rfl rfl (mod_cons (j := 59) rfl (fun _ _ h => h) mod_nil) (.cons .here (.cons .here .nil))))))
  ·
   refine w_exit (exi_nxt (eL808 _ _ (exi_block (fin_nxt ?_))))
   refine w_seq (wsr (oM rfl (oV (v_geq rfl rfl) (rnf ?_))))
   refine w_condM h rfl (fun _ h => ?_) (fun _ h => ?_)
   ·
    refine wsr (oM rfl (oA rfl (oA rfl (oA rfl ?_))))
    refine rnf (w_ret (ret_nxt (ret_post (.as rfl (nilv_isv (α := Int)) (.tmp rfl (.tmp rfl .nil))) .nil ?_)))
    obtain rfl := Option.some.inj h
    exact ⟨rfl, rfl⟩
   ·
    refine wkf (w_seq (wsr (oA rfl (rnf ?_))))
    refine w_block (w_lp (ι := Int) (γ := Unit) (fun q1350 g1350 => [(11, isv (q1350))]) (fun q1350 g1350 => []) h () (mod_cons (j := 11) rfl (fun _ _ h => h) mod_nil) .nil (fun L1351 q1350 g1350 Q1600 h hL1351 eL1351 rL1351 => w_seq (wsr (oM rfl ?_))))
    refine oV (v_fi rfl GMod.f2 fd73_2 rfl (z := a_m.names)) (oV (v_loadI ty22 rfl) (oV (v_ln (l := a_m.names) rfl (fun _ _ h => h) sl22) (oV (v_lss rfl rfl) (rnf ?_))))
    refine w_condM h rfl (fun _ h => ?_) (fun _ h => ?_)
    ·
     refine wkf (w_seq (w_block (wsr (oM rfl ?_))))
     refine oM rfl (oM rfl (cal_inv h fun y1476 hy1476 h => oT (t_call (r07_reach_w hy1476) hT (.cons rfl appv_isv (.same rfl (.same rfl .nil))) .nil (fun R H' hR => ?_))))
     obtain ⟨rfl, rfl⟩ := hR
     refine rnf (w_condM h rfl (fun _ h => ?_) (fun _ h => ?_))
     ·
      refine wsr (oM rfl (oA rfl (oA rfl (oA rfl ?_))))
      refine rnf (w_ret (ret_block (ret_nxt (rL1351 _ ?_))))
      refine ret_block (ret_nxt (ret_post (.as rfl (nilv_isv (α := Int)) (.tmp rfl (.tmp rfl .nil))) .nil ?_))
      obtain rfl := Option.some.inj h
      exact ⟨rfl, rfl⟩
     ·
      refine w_skip (fin_block (fin_nxt (w_region (oM rfl ?_))))
      exact ck_inv h fun q1477 h => oV (v_add rfl rfl q1477) (oA rfl (rl_nil (hL1351 _ () h _ (join_imp 13 rfl rfl (mod_cons (j := 11) rfl (fun _ _ h => h) mod_nil) (.cons .here .nil)))))
    ·
     refine w_exit (exi_nxt (eL1351 _ _ (exi_block (fin_nxt ?_))))
     refine wsr (oA rfl (rnf (w_seq (w_block ?_))))
     refine w_upd (upd_tok) (w_lp (ι := (List Int)) (γ := Tok) (fun q1478 g1478 => [(12, appv g1478 (q1478))]) (fun q1478 g1478 => [tokE g1478]) h (none) (mod_cons (j := 12) rfl nilv_appv mod_nil) (.cons .here .nil) (fun L1479 q1478 g1478 Q1599 h hL1479 eL1479 rL1479 => w_seq (wsr (oM rfl ?_))))
     refine oV (v_ln (l := q1478) rfl appv_isv sl23) (oV (v_fi rfl GMod.f2 fd73_2 rfl (z := a_m.names)) (oV (v_loadI ty22 rfl) (oV (v_ln (l := a_m.names) rfl (fun _ _ h => h) sl22) (oV (v_lss rfl rfl) ?_))))
     refine rnf (w_condM h rfl (fun _ h => ?_) (fun _ h => ?_))
     ·
      refine wkf (w_block (wsr (oA rfl (rnf ?_))))
      refine w_block (w_lp (ι := Int) (γ := Unit) (fun q1539 g1539 => [(13, isv (q1539))]) (fun q1539 g1539 => []) h () (mod_cons (j := 13) rfl (fun _ _ h => h) mod_nil) .nil (fun L1540 q1539 g1539 Q1597 h hL1540 eL1540 rL1540 => w_seq (wsr (oM rfl ?_))))
      refine oV (v_fi rfl GMod.f2 fd73_2 rfl (z := a_m.names)) (oV (v_loadI ty22 rfl) (oV (v_ln (l := a_m.names) rfl (fun _ _ h => h) sl22) (oV (v_lss rfl rfl) (rnf ?_))))
      refine w_condM h rfl (fun _ h => ?_) (fun _ h => ?_)
      ·
       refine wkf (w_seq (w_block (wsr (oM rfl ?_))))
       refine oM rfl (cal_inv h fun y1569 hy1569 h => oT (t_call (h_In_int_w hy1569) hT (.cons rfl appv_isv (.same rfl .nil)) .nil (fun R H' hR => ?_)))
       obtain ⟨rfl, rfl⟩ := hR
       refine oV (v_not rfl) (oA rfl (rnf (w_seq (wsr ?_))))
       refine oA rfl (rnf (w_block (w_lp (ι := Bool × Int) (γ := Unit) (fun q1570 g1570 => [(14, isv (q1570.1)), (15, isv (q1570.2))]) (fun q1570 g1570 => []) h () (mod_cons (j := 14) rfl (fun _ _ h => h) (mod_cons (j := 15) rfl (fun _ _ h => h) mod_nil)) .nil (fun L1571 q1570 g1570 Q1596 h hL1571 eL1571 rL1571 => w_seq ?_))))
       refine wsr (oM rfl (oM rfl (oM rfl (cal_inv h fun y1584 hy1584 h => ?_))))
       refine oV (v_ix (l := q807.1) rfl appv_isv rfl sl36 hy1584) (oV (v_loadI ty23 rfl) (oV (v_ln (l := y1584) rfl (fun _ _ h => h) sl23) (oV (v_lss rfl rfl) (rnf ?_))))
       refine w_condM h rfl (fun _ h => ?_) (fun _ h => ?_)
       ·
        refine wkf (w_seq (w_block (w_region (oM rfl ?_))))
        refine oM rfl (rl_j (jb 113) je .nil h 10 rfl (fun q1585 g1585 h => ?_) (fun J1586 h hJ1586 => ?_))
        ·
         refine oA rfl (rl_nil (fin_block (fin_nxt (w_region ?_))))
         refine oM rfl (ck_inv h fun q1591 h => oV (v_add rfl rfl q1591) (oA rfl (rl_nil ?_)))
         exact hL1571 _ () h _ (join_imp 16 rfl rfl (mod_cons (j := 14) rfl (fun _ _ h => h) (mod_cons (j := 15) rfl (fun _ _ h => h) mod_nil)) (.cons .here (.cons .here .nil)))
        ·
         refine rl_condM (j := 103) h rfl (fun g1587 h => ?_) (fun g1587 h => ?_)
         ·
          refine oK 103 rfl rfl rfl g1587 (v_move rfl) (oK 103 rfl rfl rfl g1587 (v_move rfl) (oK 103 rfl rfl rfl g1587 (v_move rfl) (cal_inv h fun y1588 hy1588 h => oK 103 rfl rfl rfl g1587 (v_ix (l := q807.1) rfl appv_isv rfl sl36 hy1588) ?_)))
          refine oK 103 rfl rfl rfl g1587 (v_loadI ty23 rfl) (oK 103 rfl rfl rfl g1587 (v_move rfl) (cal_inv h fun y1589 hy1589 h => oK 103 rfl rfl rfl g1587 (v_ix (l := y1588) rfl (fun _ _ h => h) rfl sl23 hy1589) (oK 103 rfl rfl rfl g1587 (v_loadI ty3 rfl) ?_)))
          refine cal_inv h fun y1590 hy1590 h => op_take rfl rfl (dj := 103) rfl g1587 (t_call (h_In_int_w hy1590) hT (.cons rfl appv_isv (.same rfl .nil)) .nil (fun R H' hR => ?_))
          obtain ⟨rfl, rfl⟩ := hR
          exact oV (v_pick_t rfl g1587 rfl) (hJ1586 _ () h _ (join_imp 10 rfl rfl (mod_cons (j := 113) rfl (fun _ _ h => h) mod_nil) (.cons .here (.cons .here .nil))))
         ·
          refine oP 103 rfl rfl g1587 (oP 103 rfl rfl g1587 (oP 103 rfl rfl g1587 (oP 103 rfl rfl g1587 (oP 103 rfl rfl g1587 ?_))))
          refine oP 103 rfl rfl g1587 (oP 103 rfl rfl g1587 (oP 103 rfl rfl g1587 (oP 103 rfl rfl g1587 (oV (v_pick_f rfl g1587 rfl) ?_))))
          exact hJ1586 _ () h _ (join_imp 10 rfl rfl (mod_cons (j := 113) rfl (fun _ _ h => h) mod_nil) (.cons .here (.cons .here .nil)))
       ·
        refine w_exit (exi_nxt (eL1571 _ _ (exi_block (fin_nxt ?_))))
        refine wsr (oM rfl (rnf (w_condM h rfl (fun _ h => ?_) (fun _ h => ?_))))
        ·
         refine wsr (oM rfl (oM rfl (oT (t_buildSlice (l := ([q1539] : (List Int))) el23 (.cons rfl (fun _ _ h => h) .nil) rfl rfl (asr_inv h fun q1594 h => ?_)))))
         refine oT (t_appC (l := q1478) (m := ([q1539] : (List Int))) ap23_23 rfl (fun _ _ h => h) rfl appv_isv .here q1594 fun t1593 => oA rfl (rnf (w_exit (exi_pass rfl ?_))))
         exact exi_nxt (eL1540 _ _ (exi_block (fin_block (hL1479 _ (t1593) h _ (join_imp 35 rfl rfl (mod_cons (j := 12) rfl (fun _ _ h => h) mod_nil) (.cons .here (.cons .here .nil)))))))
        ·
         refine w_skip (fin_block (fin_nxt (w_region (oM rfl ?_))))
         exact ck_inv h fun q1595 h => oV (v_add rfl rfl q1595) (oA rfl (rl_nil (hL1540 _ () h _ (join_imp 25 rfl rfl (mod_cons (j := 13) rfl (fun _ _ h => h) mod_nil) (.cons .here (.cons .here .nil))))))
      ·
       refine w_exit (exi_nxt (eL1540 _ _ (exi_block (fin_block ?_))))
       exact hL1479 _ (g1478) h _ (join_imp 14 rfl rfl (mod_cons (j := 12) rfl (fun _ _ h => h) mod_nil) (.cons .here (.cons .here .nil)))
     ·
      refine w_exit (exi_nxt (eL1479 _ _ (exi_block (fin_nxt ?_))))
      refine wsr (oM rfl (oA rfl (oA rfl (oA rfl ?_))))
      refine rnf (w_ret (ret_post (.as rfl appv_isv (.tmp rfl (.tmp rfl .nil))) .nil ?_))
      obtain rfl := Option.some.inj h
      exact ⟨rfl, rfl⟩

end Go.Proofs.YtnnijoepfgnlfaaGreatDoor


namespace Go.Proofs.YtnnijoepfgnlfaaGreatDoor
open Go.Sy
set_option maxRecDepth 4000
theorem r10_maker_fail_w : ∀ {a_x : GMk} {a_e : Int} {b_a_x : Nat} {v_a_x1 : Vt} {r : GMk}, r10_maker_fail a_x a_e = some r → Ctr Tryz.prog 150 [ptrv b_a_x (Fld.id (GMod × Vh × Int)), isv (a_e)] [boxE b_a_x ((a_x.m, (Vh.mk v_a_x1 a_x.l.length), a_x.e) : (GMod × Vh × Int)), vecE v_a_x1 (a_x.l : List GTyp)] (fun R H => R = oneOf [] ∧ H = [boxE b_a_x ((r.m, (Vh.mk v_a_x1 r.l.length), r.e)), vecE v_a_x1 (r.l)]) := by
 intro a_x a_e b_a_x v_a_x1 r h
 unfold r10_maker_fail at h
 refine spec_intro Tryz.func150 rfl (by decide +kernel) (by rfl) fun w0 S0 hT => ?_
 refine wsr (oM rfl (oV (v_nilCheck rfl) (oV (v_fa rfl pt141_0_2 fd141_2) (oT (t_loadC (R := isv (a_x.e)) ty65 rfl .here (fun _ _ h => h) ?_)))))
 refine oV (v_eql rfl rfl) (rnf (w_condM h rfl (fun _ h => ?_) (fun _ h => ?_)))
 ·
  refine w_region (oM rfl (oM rfl (oV (v_nilCheck rfl) (oV (v_fa rfl pt141_0_2 fd141_2) ?_))))
  refine oT (t_storeC (y' := ((a_x.m, (Vh.mk v_a_x1 a_x.l.length), a_e) : (GMod × Vh × Int))) ty65 rfl rfl (fun _ _ h => h) .here rfl (rl_nil (fin_post .nil (.cons .here (.cons .here .nil)) ?_)))
  obtain rfl := Option.some.inj h
  exact ⟨rfl, rfl⟩
 ·
  refine w_skip (fin_post .nil (.cons .here (.cons .here .nil)) ?_)
  obtain rfl := Option.some.inj h
  exact ⟨rfl, rfl⟩


theorem r09_Universal_w : ∀ {a_kind : Int} {r : Tag}, r09_Universal a_kind = some r → Ctr Tryz.prog 151 [isv (a_kind)] [] (fun R H => R = oneOf [isv (r)] ∧ H = []) := by
 intro a_kind r h
 unfold r09_Universal at h
 refine spec_intro Tryz.func151 rfl (by decide +kernel) (by rfl) fun w0 S0 hT => ?_
 refine wsr (oT (t_alloc _ ze31 fun b1 => rnf (w_seq (wsr ?_))))
 refine oM rfl (rnf (w_block (wsr (oV (v_eql rfl rfl) ?_))))
 refine oA rfl (rnf (w_condM h rfl (fun _ h => ?_) (fun _ h => ?_)))
 ·
  refine wsr (oV (v_build (z := (Tag.mk (0 : Int) (1 : Int))) rfl bu31 ze31 (.cons Tag.f1 fd31_1 rfl (fun _ _ h => h) .nil)) (oT (t_storeC (y' := ((Tag.mk (0 : Int) (1 : Int)) : Tag)) ty31 rfl rfl (fun _ _ h => h) .here rfl (rnf (w_ret ?_)))))
  refine ret_block (ret_nxt (ret_post (.cell rfl .here ty31 .nil) .nil ?_))
  obtain rfl := Option.some.inj h
  exact ⟨rfl, rfl⟩
 ·
  refine wsr (oV (v_eql rfl rfl) (oA rfl (rnf (w_condM h rfl (fun _ h => ?_) (fun _ h => ?_)))))
  ·
   refine wsr (oV (v_build (z := (Tag.mk (0 : Int) (2 : Int))) rfl bu31 ze31 (.cons Tag.f1 fd31_1 rfl (fun _ _ h => h) .nil)) (oT (t_storeC (y' := ((Tag.mk (0 : Int) (2 : Int)) : Tag)) ty31 rfl rfl (fun _ _ h => h) .here rfl (rnf (w_ret ?_)))))
   refine ret_block (ret_nxt (ret_post (.cell rfl .here ty31 .nil) .nil ?_))
   obtain rfl := Option.some.inj h
   exact ⟨rfl, rfl⟩
  ·
   refine wsr (oV (v_eql rfl rfl) (oA rfl (rnf (w_condM h rfl (fun _ h => ?_) (fun _ h => ?_)))))
   ·
    refine wsr (oV (v_build (z := (Tag.mk (0 : Int) (4 : Int))) rfl bu31 ze31 (.cons Tag.f1 fd31_1 rfl (fun _ _ h => h) .nil)) (oT (t_storeC (y' := ((Tag.mk (0 : Int) (4 : Int)) : Tag)) ty31 rfl rfl (fun _ _ h => h) .here rfl (rnf (w_ret ?_)))))
    refine ret_block (ret_nxt (ret_post (.cell rfl .here ty31 .nil) .nil ?_))
    obtain rfl := Option.some.inj h
    exact ⟨rfl, rfl⟩
   ·
    refine wsr (oV (v_eql rfl rfl) (oA rfl (rnf (w_condM h rfl (fun _ h => ?_) (fun _ h => ?_)))))
    ·
     refine wsr (oV (v_build (z := (Tag.mk (0 : Int) (5 : Int))) rfl bu31 ze31 (.cons Tag.f1 fd31_1 rfl (fun _ _ h => h) .nil)) (oT (t_storeC (y' := ((Tag.mk (0 : Int) (5 : Int)) : Tag)) ty31 rfl rfl (fun _ _ h => h) .here rfl (rnf (w_ret ?_)))))
     refine ret_block (ret_nxt (ret_post (.cell rfl .here ty31 .nil) .nil ?_))
     obtain rfl := Option.some.inj h
     exact ⟨rfl, rfl⟩
    ·
     refine wsr (oV (v_eql rfl rfl) (oA rfl (rnf (w_condM h rfl (fun _ h => ?_) (fun _ h => ?_)))))
     ·
      refine wsr (oV (v_build (z := (Tag.mk (0 : Int) (10 : Int))) rfl bu31 ze31 (.cons Tag.f1 fd31_1 rfl (fun _ _ h => h) .nil)) (oT (t_storeC (y' := ((Tag.mk (0 : Int) (10 : Int)) : Tag)) ty31 rfl rfl (fun _ _ h => h) .here rfl (rnf (w_ret ?_)))))
      refine ret_block (ret_nxt (ret_post (.cell rfl .here ty31 .nil) .nil ?_))
      obtain rfl := Option.some.inj h
      exact ⟨rfl, rfl⟩
     ·
      refine wsr (oV (v_eql rfl rfl) (oA rfl (rnf (w_condM h rfl (fun _ h => ?_) (fun _ h => ?_)))))
      ·
       refine wsr (oV (v_build (z := (Tag.mk (0 : Int) (12 : Int))) rfl bu31 ze31 (.cons Tag.f1 fd31_1 rfl (fun _ _ h => h) .nil)) (oT (t_storeC (y' := ((Tag.mk (0 : Int) (12 : Int)) : Tag)) ty31 rfl rfl (fun _ _ h => h) .here rfl (rnf (w_ret ?_)))))
       refine ret_block (ret_nxt (ret_post (.cell rfl .here ty31 .nil) .nil ?_))
       obtain rfl := Option.some.inj h
       exact ⟨rfl, rfl⟩
      ·
       refine w_seq (wsr (oV (v_eql rfl rfl) (oA rfl (rnf ?_))))
       refine w_J (jb 22) je .nil h (fun q2 g2 h => ?_) (fun J3 h hJ3 => ?_)
       ·
        refine w_condM h rfl (fun _ h => ?_) (fun _ h => ?_)
        ·
         refine wsr (oV (v_build (z := (Tag.mk (0 : Int) (16 : Int))) rfl bu31 ze31 (.cons Tag.f1 fd31_1 rfl (fun _ _ h => h) .nil)) (oT (t_storeC (y' := ((Tag.mk (0 : Int) (16 : Int)) : Tag)) ty31 rfl rfl (fun _ _ h => h) .here rfl (rnf (w_ret ?_)))))
         refine ret_block (ret_nxt (ret_post (.cell rfl .here ty31 .nil) .nil ?_))
         obtain rfl := Option.some.inj h
         exact ⟨rfl, rfl⟩
        ·
         refine wsr (oV (v_eql rfl rfl) (oA rfl (rnf (w_condM h rfl (fun _ h => ?_) (fun _ h => ?_)))))
         ·
          refine wsr (oV (v_build (z := (Tag.mk (0 : Int) (17 : Int))) rfl bu31 ze31 (.cons Tag.f1 fd31_1 rfl (fun _ _ h => h) .nil)) (oT (t_storeC (y' := ((Tag.mk (0 : Int) (17 : Int)) : Tag)) ty31 rfl rfl (fun _ _ h => h) .here rfl (rnf (w_ret ?_)))))
          refine ret_block (ret_nxt (ret_post (.cell rfl .here ty31 .nil) .nil ?_))
          obtain rfl := Option.some.inj h
          exact ⟨rfl, rfl⟩
         ·
          refine w_skip (fin_block (fin_nxt (wsr (oV (v_build (z := (Tag.mk (0 : Int) (0 : Int))) rfl bu31 ze31 .nil) ?_))))
          refine oT (t_storeC (y' := ((Tag.mk (0 : Int) (0 : Int)) : Tag)) ty31 rfl rfl (fun _ _ h => h) .here rfl (rnf (w_ret (ret_post (.cell rfl .here ty31 .nil) .nil ?_))))
          obtain rfl := Option.some.inj h
          exact ⟨rfl, rfl⟩
       ·
        refine w_condM h rfl (fun _ h => ?_) (fun _ h => ?_)
        ·
         exact w_skip (hJ3 _ () h _ (join_imp 0 rfl rfl (mod_cons (j := 22) rfl (fun _ _ h => h) mod_nil) (.cons .here .nil)))
        ·
         exact w_region (oV (v_eql rfl rfl) (oA rfl (rl_nil (hJ3 _ () h _ (join_imp 2 rfl rfl (mod_cons (j := 22) rfl (fun _ _ h => h) mod_nil) (.cons .here .nil))))))


theorem r08_Check_w : ∀ {a_c : GCon} {a_size : Bool} {r : Int}, r08_Check a_c a_size = some r → Ctr Tryz.prog 152 [isv (a_c), isv (a_size)] [] (fun R H => R = oneOf [isv (r)] ∧ H = []) := by
 intro a_c a_size r h
 unfold r08_Check at h
 refine spec_intro Tryz.func152 rfl (by decide +kernel) (by rfl) fun w0 S0 hT => ?_
 refine wsr (oT (t_boxIC (y := a_c) rfl (fun _ _ h => h) (oA rfl (rnf (w_seq ?_)))))
 refine wsr (oV (v_fi rfl GCon.f0 fd83_0 rfl (z := a_c.has)) (oV (v_loadI ty4 rfl) (oV (v_not rfl) (rnf ?_))))
 refine w_condM h rfl (fun _ h => ?_) (fun _ h => ?_)
 ·
  refine wsr (oA rfl (rnf (w_ret (ret_nxt ?_))))
  refine ret_post (.tmp rfl .nil) .nil ?_
  obtain rfl := Option.some.inj h
  exact ⟨rfl, rfl⟩
 ·
  refine wkf (w_seq (wsr (oV (v_fi rfl GCon.f1 fd83_1 rfl (z := a_c.hasLow)) (oV (v_loadI ty4 rfl) ?_))))
  refine oM rfl (rl_j (jb 13) je .nil h 3 rfl (fun q1 g1 h => ?_) (fun J2 h hJ2 => ?_))
  ·
   refine oM rfl (rl_j (jb 20) je .nil h 6 rfl (fun q4 g4 h => ?_) (fun J5 h hJ5 => ?_))
   ·
    refine rnf (w_condM h rfl (fun _ h => ?_) (fun _ h => ?_))
    ·
     refine wsr (oA rfl (rnf (w_ret (ret_nxt ?_))))
     refine ret_post (.tmp rfl .nil) .nil ?_
     obtain rfl := Option.some.inj h
     exact ⟨rfl, rfl⟩
    ·
     refine wkf (w_seq (wsr (oM rfl (oM rfl ?_))))
     refine rl_j (jb 50) je .nil h 28 rfl (fun q7 g7 h => ?_) (fun J8 h hJ8 => ?_)
     ·
      refine rnf (w_condM h rfl (fun _ h => ?_) (fun _ h => ?_))
      ·
       refine wsr (oA rfl (rnf (w_ret (ret_nxt ?_))))
       refine ret_post (.tmp rfl .nil) .nil ?_
       obtain rfl := Option.some.inj h
       exact ⟨rfl, rfl⟩
      ·
       refine wkf (wsr (oA rfl (rnf (w_ret ?_))))
       refine ret_post (.tmp rfl .nil) .nil ?_
       obtain rfl := Option.some.inj h
       exact ⟨rfl, rfl⟩
     ·
      refine rl_condM (j := 22) h rfl (fun g9 h => ?_) (fun g9 h => ?_)
      ·
       refine oK 22 rfl rfl rfl g9 (v_fi rfl GCon.f1 fd83_1 rfl (z := a_c.hasLow)) (oK 22 rfl rfl rfl g9 (v_loadI ty4 rfl) (oK 22 rfl rfl rfl g9 (v_not rfl) (oK 22 rfl rfl rfl g9 (v_move rfl) (rl_j (jb 30) je .nil h 4 rfl (fun q10 g10 h => ?_) (fun J11 h hJ11 => ?_)))))
       ·
        refine oK 22 rfl rfl rfl g9 (v_move rfl) (rl_j (jb 35) je .nil h 4 rfl (fun q13 g13 h => ?_) (fun J14 h hJ14 => ?_))
        ·
         refine oK 22 rfl rfl rfl g9 (v_move rfl) (rl_j (jb 49) je .nil h 13 rfl (fun q16 g16 h => ?_) (fun J17 h hJ17 => ?_))
         ·
          exact oV (v_pick_t rfl g9 rfl) (hJ8 _ () h _ (ji 10 50 rfl rfl rfl))
         ·
          refine rl_condM (j := 36) h rfl (fun g18 h => ?_) (fun g18 h => ?_)
          ·
           refine oP 36 rfl rfl g18 (oP 36 rfl rfl g18 (oP 36 rfl rfl g18 (op_passU rfl (dj := 39) rfl (op_passU rfl (dj := 39) rfl ?_))))
           refine op_passU rfl (dj := 39) rfl (op_passU rfl (dj := 39) rfl (op_passU rfl (dj := 43) rfl (op_passU rfl (dj := 43) rfl (op_passU rfl (dj := 43) rfl ?_))))
           exact op_passU rfl (dj := 39) rfl (oP 36 rfl rfl g18 (oK 22 rfl rfl rfl g9 (v_pick_t rfl g18 rfl) (hJ17 _ () h _ (ji 13 49 rfl rfl rfl))))
          ·
           refine oK 36 rfl rfl rfl g18 (v_fi rfl GCon.f2 fd83_2 rfl (z := a_c.hasHigh)) (oK 36 rfl rfl rfl g18 (v_loadI ty4 rfl) (oK 36 rfl rfl rfl g18 (v_move rfl) (rl_j (jb 48) je .nil h 9 rfl (fun q19 g19 h => ?_) (fun J20 h hJ20 => ?_))))
           ·
            exact oK 22 rfl rfl rfl g9 (v_pick_f rfl g18 rfl) (hJ17 _ () h _ (ji 5 49 rfl rfl rfl))
           ·
            refine rl_condM (j := 39) h rfl (fun g21 h => ?_) (fun g21 h => ?_)
            ·
             refine oK 39 rfl rfl rfl g21 (v_fi rfl GCon.f5 fd83_5 rfl (z := a_c.high)) (oK 39 rfl rfl rfl g21 (v_loadI ty2 rfl) (oK 39 rfl rfl rfl g21 (v_lss rfl rfl) (oK 39 rfl rfl rfl g21 (v_move rfl) (rl_j (jb 47) je .nil h 4 rfl (fun q22 g22 h => ?_) (fun J23 h hJ23 => ?_)))))
             ·
              exact oK 36 rfl rfl rfl g18 (v_pick_t rfl g21 rfl) (hJ20 _ () h _ (ji 6 48 rfl rfl rfl))
             ·
              refine rl_condM (j := 43) h rfl (fun g24 h => ?_) (fun g24 h => ?_)
              ·
               exact oP 43 rfl rfl g24 (oP 43 rfl rfl g24 (oP 43 rfl rfl g24 (oK 39 rfl rfl rfl g21 (v_pick_t rfl g24 rfl) (hJ23 _ () h _ (ji 4 47 rfl rfl rfl)))))
              ·
               exact oK 43 rfl rfl rfl g24 (v_fi rfl GCon.f5 fd83_5 rfl (z := a_c.high)) (oK 43 rfl rfl rfl g24 (v_loadI ty2 rfl) (oK 43 rfl rfl rfl g24 (v_gtr rfl rfl) (oK 39 rfl rfl rfl g21 (v_pick_f rfl g24 rfl) (hJ23 _ () h _ (ji 4 47 rfl rfl rfl)))))
            ·
             refine oP 39 rfl rfl g21 (oP 39 rfl rfl g21 (oP 39 rfl rfl g21 (oP 39 rfl rfl g21 (op_passU rfl (dj := 43) rfl ?_))))
             exact op_passU rfl (dj := 43) rfl (op_passU rfl (dj := 43) rfl (oP 39 rfl rfl g21 (oK 36 rfl rfl rfl g18 (v_pick_f rfl g21 rfl) (hJ20 _ () h _ (ji 9 48 rfl rfl rfl)))))
        ·
         refine rl_condM (j := 31) h rfl (fun g15 h => ?_) (fun g15 h => ?_)
         ·
          exact oP 31 rfl rfl g15 (oP 31 rfl rfl g15 (oP 31 rfl rfl g15 (oK 22 rfl rfl rfl g9 (v_pick_t rfl g15 rfl) (hJ14 _ () h _ (ji 4 35 rfl rfl rfl)))))
         ·
          exact oK 31 rfl rfl rfl g15 (v_fi rfl GCon.f4 fd83_4 rfl (z := a_c.low)) (oK 31 rfl rfl rfl g15 (v_loadI ty2 rfl) (oK 31 rfl rfl rfl g15 (v_gtr rfl rfl) (oK 22 rfl rfl rfl g9 (v_pick_f rfl g15 rfl) (hJ14 _ () h _ (ji 4 35 rfl rfl rfl)))))
       ·
        refine rl_condM (j := 26) h rfl (fun g12 h => ?_) (fun g12 h => ?_)
        ·
         exact oP 26 rfl rfl g12 (oP 26 rfl rfl g12 (oP 26 rfl rfl g12 (oK 22 rfl rfl rfl g9 (v_pick_t rfl g12 rfl) (hJ11 _ () h _ (ji 4 30 rfl rfl rfl)))))
        ·
         exact oK 26 rfl rfl rfl g12 (v_fi rfl GCon.f4 fd83_4 rfl (z := a_c.low)) (oK 26 rfl rfl rfl g12 (v_loadI ty2 rfl) (oK 26 rfl rfl rfl g12 (v_lss rfl rfl) (oK 22 rfl rfl rfl g9 (v_pick_f rfl g12 rfl) (hJ11 _ () h _ (ji 4 30 rfl rfl rfl)))))
      ·
       refine oP 22 rfl rfl g9 (oP 22 rfl rfl g9 (oP 22 rfl rfl g9 (oP 22 rfl rfl g9 (op_passU rfl (dj := 26) rfl ?_))))
       refine op_passU rfl (dj := 26) rfl (op_passU rfl (dj := 26) rfl (oP 22 rfl rfl g9 (oP 22 rfl rfl g9 (op_passU rfl (dj := 31) rfl ?_))))
       refine op_passU rfl (dj := 31) rfl (op_passU rfl (dj := 31) rfl (oP 22 rfl rfl g9 (oP 22 rfl rfl g9 (op_passU rfl (dj := 36) rfl ?_))))
       refine op_passU rfl (dj := 36) rfl (op_passU rfl (dj := 36) rfl (op_passU rfl (dj := 39) rfl (op_passU rfl (dj := 39) rfl (op_passU rfl (dj := 39) rfl ?_))))
       refine op_passU rfl (dj := 39) rfl (op_passU rfl (dj := 43) rfl (op_passU rfl (dj := 43) rfl (op_passU rfl (dj := 43) rfl (op_passU rfl (dj := 39) rfl ?_))))
       exact op_passU rfl (dj := 36) rfl (oP 22 rfl rfl g9 (oV (v_pick_f rfl g9 rfl) (hJ8 _ () h _ (ji 28 50 rfl rfl rfl))))
   ·
    refine rl_condM (j := 14) h rfl (fun g6 h => ?_) (fun g6 h => ?_)
    ·
     refine oK 14 rfl rfl rfl g6 (v_fi rfl GCon.f4 fd83_4 rfl (z := a_c.low)) (oK 14 rfl rfl rfl g6 (v_loadI ty2 rfl) (oK 14 rfl rfl rfl g6 (v_fi rfl GCon.f5 fd83_5 rfl (z := a_c.high)) (oK 14 rfl rfl rfl g6 (v_loadI ty2 rfl) (oK 14 rfl rfl rfl g6 (v_gtr rfl rfl) ?_))))
     exact oV (v_pick_t rfl g6 rfl) (hJ5 _ () h _ (ji 6 20 rfl rfl rfl))
    ·
     refine oP 14 rfl rfl g6 (oP 14 rfl rfl g6 (oP 14 rfl rfl g6 (oP 14 rfl rfl g6 (oP 14 rfl rfl g6 ?_))))
     exact oV (v_pick_f rfl g6 rfl) (hJ5 _ () h _ (ji 6 20 rfl rfl rfl))
  ·
   refine rl_condM (j := 10) h rfl (fun g3 h => ?_) (fun g3 h => ?_)
   ·
    exact oK 10 rfl rfl rfl g3 (v_fi rfl GCon.f2 fd83_2 rfl (z := a_c.hasHigh)) (oK 10 rfl rfl rfl g3 (v_loadI ty4 rfl) (oV (v_pick_t rfl g3 rfl) (hJ2 _ () h _ (ji 3 13 rfl rfl rfl))))
   ·
    exact oP 10 rfl rfl g3 (oP 10 rfl rfl g3 (oV (v_pick_f rfl g3 rfl) (hJ2 _ () h _ (ji 3 13 rfl rfl rfl))))


theorem r10_taken_w : ∀ {a_l : (List GItem)} {a_v : Int} {r : Bool}, r10_taken a_l a_v = some r → Ctr Tryz.prog 174 [isv (a_l), isv (a_v)] [] (fun R H => R = oneOf [isv (r)] ∧ H = []) := by
 intro a_l a_v r h
 unfold r10_taken at h
 refine spec_intro Tryz.func174 rfl (by decide +kernel) (by rfl) fun w0 S0 hT => ?_
 refine wsr (oA rfl (rnf (w_seq (wsr ?_))))
 refine oA rfl (rnf (w_block (w_lp (ι := Int) (γ := Unit) (fun q1 g1 => [(5, isv (q1))]) (fun q1 g1 => []) h () (mod_cons (j := 5) rfl (fun _ _ h => h) mod_nil) .nil (fun L2 q1 g1 Q15 h hL2 eL2 rL2 => w_seq ?_))))
 refine wsr (oM rfl (oM rfl (oV (v_ln (l := a_l) rfl (fun _ _ h => h) sl84) (oV (v_lss rfl rfl) ?_))))
 refine rnf (w_condM h rfl (fun _ h => ?_) (fun _ h => ?_))
 ·
  refine wkf (w_seq (w_block (wsr (oM rfl ?_))))
  refine oM rfl (cal_inv h fun y9 hy9 h => oV (v_ix (l := a_l) rfl (fun _ _ h => h) rfl sl84 hy9) (oV (v_fi rfl GItem.f2 fd97_2 rfl (z := y9.has)) (oV (v_loadI ty4 rfl) ?_)))
  refine oM rfl (rl_j (jb 25) je .nil h 8 rfl (fun q10 g10 h => ?_) (fun J11 h hJ11 => ?_))
  ·
   refine rnf (w_condM h rfl (fun _ h => ?_) (fun _ h => ?_))
   ·
    refine wsr (oA rfl (rnf (w_ret (ret_block ?_))))
    refine ret_nxt (rL2 _ (ret_block (ret_nxt (ret_post (.tmp rfl .nil) .nil ?_))))
    obtain rfl := Option.some.inj h
    exact ⟨rfl, rfl⟩
   ·
    refine w_skip (fin_block (fin_nxt (w_region (oM rfl ?_))))
    exact ck_inv h fun q14 h => oV (v_add rfl rfl q14) (oA rfl (rl_nil (hL2 _ () h _ (ji 15 5 rfl rfl rfl))))
  ·
   refine rl_condM (j := 17) h rfl (fun g12 h => ?_) (fun g12 h => ?_)
   ·
    refine oK 17 rfl rfl rfl g12 (v_move rfl) (oK 17 rfl rfl rfl g12 (v_move rfl) (cal_inv h fun y13 hy13 h => oK 17 rfl rfl rfl g12 (v_ix (l := a_l) rfl (fun _ _ h => h) rfl sl84 hy13) (oK 17 rfl rfl rfl g12 (v_fi rfl GItem.f1 fd97_1 rfl (z := y13.number)) ?_)))
    exact oK 17 rfl rfl rfl g12 (v_loadI ty2 rfl) (oK 17 rfl rfl rfl g12 (v_move rfl) (oK 17 rfl rfl rfl g12 (v_eql rfl rfl) (oV (v_pick_t rfl g12 rfl) (hJ11 _ () h _ (ji 8 25 rfl rfl rfl)))))
   ·
    refine oP 17 rfl rfl g12 (oP 17 rfl rfl g12 (oP 17 rfl rfl g12 (oP 17 rfl rfl g12 (oP 17 rfl rfl g12 ?_))))
    exact oP 17 rfl rfl g12 (oP 17 rfl rfl g12 (oV (v_pick_f rfl g12 rfl) (hJ11 _ () h _ (ji 8 25 rfl rfl rfl))))
 ·
  refine w_exit (exi_nxt (eL2 _ _ (exi_block (fin_nxt ?_))))
  refine wsr (oA rfl (rnf (w_ret (ret_post (.tmp rfl .nil) .nil ?_))))
  obtain rfl := Option.some.inj h
  exact ⟨rfl, rfl⟩


theorem r10_maker_items_w : ∀ {a_x : GMk} {a_n_ : GNode} {b_a_x : Nat} {v_a_x1 : Vt} {r : (List GItem) × GMk}, r10_maker_items a_x a_n_ = some r → Ctr Tryz.prog 153 [ptrv b_a_x (Fld.id (GMod × Vh × Int)), isv (a_n_)] [boxE b_a_x ((a_x.m, (Vh.mk v_a_x1 a_x.l.length), a_x.e) : (GMod × Vh × Int)), vecE v_a_x1 (a_x.l : List GTyp)] (fun R H => R = oneOf [isv (r.1)] ∧ H = [boxE b_a_x ((r.2.m, (Vh.mk v_a_x1 r.2.l.length), r.2.e)), vecE v_a_x1 (r.2.l)]) := by
 intro a_x a_n_ b_a_x v_a_x1 r h
 unfold r10_maker_items at h
 refine spec_intro Tryz.func153 rfl (by decide +kernel) (by rfl) fun w0 S0 hT => ?_
 refine wsr (oT (t_boxIC (y := a_n_) rfl (fun _ _ h => h) (oA rfl (rnf (wsr ?_)))))
 refine oA rfl (rnf (wsr (oA rfl (rnf ?_))))
 refine w_seq (wsr (oA rfl (rnf (w_block ?_))))
 refine w_upd (upd_tok) (w_lp (ι := (List GItem) × Int × Int) (γ := Tok) (fun q2 g2 => [(5, appv g2 (q2.1)), (6, isv (q2.2.1)), (7, isv (q2.2.2))]) (fun q2 g2 => [tokE g2]) h (none) (mod_cons (j := 5) rfl nilv_appv (mod_cons (j := 6) rfl (fun _ _ h => h) (mod_cons (j := 7) rfl (fun _ _ h => h) mod_nil))) (.cons .here .nil) (fun L3 q2 g2 Q666 h hL3 eL3 rL3 => w_seq (wsr (oM rfl ?_))))
 refine oV (v_fi rfl GNode.f6 fd167_6 rfl (z := a_n_.root)) (oV (v_loadI ty3 rfl) (oV (v_lss rfl rfl) (rnf (w_condM h rfl (fun _ h => ?_) (fun _ h => ?_)))))
 ·
  refine wkf (w_seq (w_block (wsr (oV (v_fi rfl GNode.f4 fd167_4 rfl (z := a_n_.items)) ?_))))
  refine oV (v_loadI ty84 rfl) (oM rfl (cal_inv h fun y335 hy335 h => oV (v_ix (l := a_n_.items) rfl (fun _ _ h => h) rfl sl84 hy335) (oV (v_loadI ty97 rfl) ?_)))
  refine oT (t_alloc _ ze97 fun b336 => oT (t_storeC (y' := (y335 : GItem)) ty97 rfl rfl (fun _ _ h => h) .here rfl (rnf (w_seq (wsr ?_)))))
  refine oV (v_fa rfl GItem.f2 fd97_2) (oT (t_loadC (R := isv (y335.has)) ty4 rfl .here (fun _ _ h => h) (oV (v_not rfl) (rnf (w_J (ι := Int × GItem) (γ := Unit) (fun q337 g337 => [(6, isv (q337.1))]) (fun q337 g337 => [boxE b336 (q337.2 : GItem)]) (.cons .here .nil) h (fun q337 g337 h => ?_) (fun J338 h hJ338 => ?_))))))
  ·
   refine wsr (oV (v_fa rfl GItem.f2 fd97_2) (oT (t_storeC (y' := ({ q337.2 with has := false } : GItem)) ty4 rfl rfl (fun _ _ h => h) .here rfl (rnf (w_region ?_)))))
   refine oM rfl (oT (t_loadC (R := isv ({ q337.2 with has := false })) ty97 rfl .here (fun _ _ h => h) (oT (t_buildSlice (l := ([{ q337.2 with has := false }] : (List GItem))) el84 (.cons rfl (fun _ _ h => h) .nil) rfl rfl (asr_inv h fun q352 h => oT (t_appC (l := q2.1) (m := ([{ q337.2 with has := false }] : (List GItem))) ap84_84 rfl (fun _ _ h => h) rfl appv_isv (.there .here) q352 fun t351 => ?_))))))
   refine oA rfl (rl_nil (fin_block (fin_nxt (w_region ?_))))
   refine oM rfl (ck_inv h fun q353 h => oV (v_add rfl rfl q353) (oA rfl (rl_nil ?_)))
   exact hL3 _ (t351) h _ (join_imp 26 rfl rfl (mod_cons (j := 5) rfl (fun _ _ h => h) (mod_cons (j := 6) rfl (fun _ _ h => h) (mod_cons (j := 7) rfl (fun _ _ h => h) mod_nil))) (.cons .here (.cons (.there .here) (.cons (.there .here) .nil))))
  ·
   refine w_condM h rfl (fun _ h => ?_) (fun _ h => ?_)
   ·
    refine w_seq (w_block (w_lp (ι := Int) (γ := Unit) (fun q339 g339 => [(6, isv (q339))]) (fun q339 g339 => []) h () (mod_cons (j := 6) rfl (fun _ _ h => h) mod_nil) .nil (fun L340 q339 g339 Q349 h hL340 eL340 rL340 => w_seq (wsr ?_))))
    refine oV (v_fi rfl GNode.f4 fd167_4 rfl (z := a_n_.items)) (oV (v_loadI ty84 rfl) (oV (v_fi rfl GNode.f6 fd167_6 rfl (z := a_n_.root)) (oV (v_loadI ty3 rfl) (asd_inv h fun q345 h => ?_))))
    refine oV (v_sl (l := a_n_.items) rfl (fun _ _ h => h) sl84 (.inl ⟨rfl, rfl⟩) (.inr ⟨_, rfl, rfl⟩) q345.1 q345.2.1 q345.2.2) (oM rfl (cal_inv h fun y346 hy346 h => oT (t_call (r10_taken_w hy346) hT (.same rfl (.same rfl .nil)) .nil (fun R H' hR => ?_))))
    obtain ⟨rfl, rfl⟩ := hR
    refine rnf (w_condM h rfl (fun _ h => ?_) (fun _ h => ?_))
    ·
     refine wkf (w_block (w_region (oM rfl (ck_inv h fun q347 h => ?_))))
     exact oV (v_add rfl rfl q347) (oA rfl (rl_nil (fin_block (hL340 _ () h _ (join_imp 11 rfl rfl (mod_cons (j := 6) rfl (fun _ _ h => h) mod_nil) (.cons .here (.cons .here (.cons .here (.cons .here .nil)))))))))
    ·
     refine w_exit (exi_nxt (eL340 _ _ (exi_block (fin_nxt ?_))))
     refine wsr (oM rfl (oV (v_fa rfl GItem.f1 fd97_1) (oT (t_storeC (y' := ({ y335 with number := q339 } : GItem)) ty2 rfl rfl (fun _ _ h => h) .here rfl (rnf ?_)))))
     refine w_region (oM rfl (ck_inv h fun q348 h => oV (v_add rfl rfl q348) (oA rfl ?_)))
     exact rl_nil (hJ338 _ () h _ (join_imp 13 rfl rfl (mod_cons (j := 6) rfl (fun _ _ h => h) mod_nil) (.cons .here (.cons .here (.cons .here (.cons .here .nil))))))
   ·
    exact w_skip (hJ338 _ () h _ (join_imp 0 rfl rfl (mod_cons (j := 6) rfl (fun _ _ h => h) mod_nil) (.cons .here (.cons .here (.cons .here (.cons .here .nil))))))
 ·
  refine w_exit (exi_nxt (eL3 _ _ (exi_block (fin_nxt ?_))))
  refine wsr (oA rfl (rnf (wsr (oA rfl ?_))))
  refine oA rfl (rnf (w_seq (wsr (oV (v_fi rfl GNode.f6 fd167_6 rfl (z := a_n_.root)) ?_))))
  refine oV (v_loadI ty3 rfl) (oA rfl (rnf (w_block (w_lp (ι := (List GItem) × Int × Bool × Bool × Int) (γ := Tok) (fun q354 g354 => [(5, appv g354 (q354.1)), (9, isv (q354.2.1)), (10, isv (q354.2.2.1)), (11, isv (q354.2.2.2.1)), (12, isv (q354.2.2.2.2))]) (fun q354 g354 => [tokE g354]) h (g2) (mod_cons (j := 5) rfl (fun _ _ h => h) (mod_cons (j := 9) rfl (fun _ _ h => h) (mod_cons (j := 10) rfl (fun _ _ h => h) (mod_cons (j := 11) rfl (fun _ _ h => h) (mod_cons (j := 12) rfl (fun _ _ h => h) mod_nil))))) (.cons .here .nil) (fun L355 q354 g354 Q664 h hL355 eL355 rL355 => ?_)))))
  refine w_seq (wsr (oM rfl (oV (v_fi rfl GNode.f4 fd167_4 rfl (z := a_n_.items)) (oV (v_loadI ty84 rfl) ?_))))
  refine oV (v_ln (l := a_n_.items) rfl (fun _ _ h => h) sl84) (oV (v_lss rfl rfl) (rnf (w_condM h rfl (fun _ h => ?_) (fun _ h => ?_))))
  ·
   refine wkf (w_seq (w_block (wsr (oV (v_fi rfl GNode.f4 fd167_4 rfl (z := a_n_.items)) ?_))))
   refine oV (v_loadI ty84 rfl) (oM rfl (cal_inv h fun y558 hy558 h => oV (v_ix (l := a_n_.items) rfl (fun _ _ h => h) rfl sl84 hy558) (oV (v_loadI ty97 rfl) ?_)))
   refine oT (t_alloc _ ze97 fun b559 => oT (t_storeC (y' := (y558 : GItem)) ty97 rfl rfl (fun _ _ h => h) .here rfl (rnf (w_seq (wsr ?_)))))
   refine oV (v_fa rfl GItem.f2 fd97_2) (oT (t_loadC (R := isv (y558.has)) ty4 rfl .here (fun _ _ h => h) (oV (v_not rfl) (rnf (w_J (ι := GItem) (γ := Unit) (fun q560 g560 => [(13, ptrv b559 (Fld.id GItem))]) (fun q560 g560 => [boxE b559 (q560 : GItem)]) (.cons .here .nil) h (fun q560 g560 h => ?_) (fun J561 h hJ561 => ?_))))))
   ·
    refine wsr (oM rfl (oM rfl (rl_j (jb 109) je .nil h 8 rfl (fun q591 g591 h => ?_) (fun J592 h hJ592 => ?_))))
    ·
     refine oA rfl (rnf (wsr (oV (v_fa rfl GItem.f2 fd97_2) (oT (t_storeC (y' := ({ q560 with has := false } : GItem)) ty4 rfl rfl (fun _ _ h => h) .here rfl ?_)))))
     refine rnf (wsr (oV (v_fa rfl GItem.f1 fd97_1) (oT (t_loadC (R := isv (q560.number)) ty2 rfl .here (fun _ _ h => h) (oA rfl ?_)))))
     refine oA rfl (rnf (w_region (oM rfl (oT (t_loadC (R := isv ({ q560 with has := false })) ty97 rfl .here (fun _ _ h => h) ?_)))))
     refine oT (t_buildSlice (l := ([{ q560 with has := false }] : (List GItem))) el84 (.cons rfl (fun _ _ h => h) .nil) rfl rfl (asr_inv h fun q599 h => oT (t_appC (l := q354.1) (m := ([{ q560 with has := false }] : (List GItem))) ap84_84 rfl (fun _ _ h => h) rfl appv_isv (.there .here) q599 fun t598 => oA rfl (rl_nil ?_))))
     refine fin_block (fin_nxt (w_region (oM rfl (ck_inv h fun q600 h => ?_))))
     exact oV (v_add rfl rfl q600) (oA rfl (rl_nil (hL355 _ (t598) h _ (join_imp 37 rfl rfl (mod_cons (j := 5) rfl (fun _ _ h => h) (mod_cons (j := 9) rfl (fun _ _ h => h) (mod_cons (j := 10) rfl (fun _ _ h => h) (mod_cons (j := 11) rfl (fun _ _ h => h) (mod_cons (j := 12) rfl (fun _ _ h => h) mod_nil))))) (.cons .here (.cons (.there .here) (.cons (.there .here) .nil)))))))
    ·
     refine rl_condM (j := 101) h rfl (fun g593 h => ?_) (fun g593 h => ?_)
     ·
      refine oP 101 rfl rfl g593 (oP 101 rfl rfl g593 (op_passU rfl (dj := 103) rfl (op_passU rfl (dj := 103) rfl (op_passU rfl (dj := 103) rfl ?_))))
      exact op_passU rfl (dj := 103) rfl (oP 101 rfl rfl g593 (oV (v_pick_t rfl g593 rfl) (hJ592 _ () h _ (join_imp 8 rfl rfl (mod_cons (j := 109) rfl (fun _ _ h => h) mod_nil) (.cons .here (.cons .here (.cons .here (.cons .here .nil))))))))
     ·
      refine oK 101 rfl rfl rfl g593 (v_move rfl) (oK 101 rfl rfl rfl g593 (v_move rfl) (rl_j (jb 108) je .nil h 5 rfl (fun q594 g594 h => ?_) (fun J595 h hJ595 => ?_)))
      ·
       exact oV (v_pick_f rfl g593 rfl) (hJ592 _ () h _ (join_imp 4 rfl rfl (mod_cons (j := 109) rfl (fun _ _ h => h) mod_nil) (.cons .here (.cons .here (.cons .here (.cons .here .nil))))))
      ·
       refine rl_condM (j := 103) h rfl (fun g596 h => ?_) (fun g596 h => ?_)
       ·
        refine oK 103 rfl rfl rfl g596 (v_fa rfl GItem.f1 fd97_1) (op_take rfl rfl (dj := 103) rfl g596 (t_loadC (R := isv (q560.number)) ty2 rfl .here (fun _ _ h => h) (oK 103 rfl rfl rfl g596 (v_move rfl) (oK 103 rfl rfl rfl g596 (v_leq rfl rfl) (oK 101 rfl rfl rfl g593 (v_pick_t rfl g596 rfl) ?_)))))
        exact hJ595 _ () h _ (join_imp 5 rfl rfl (mod_cons (j := 108) rfl (fun _ _ h => h) mod_nil) (.cons .here (.cons .here (.cons .here (.cons .here .nil)))))
       ·
        refine oP 103 rfl rfl g596 (oP 103 rfl rfl g596 (oP 103 rfl rfl g596 (oP 103 rfl rfl g596 (oK 101 rfl rfl rfl g593 (v_pick_f rfl g596 rfl) ?_))))
        exact hJ595 _ () h _ (join_imp 5 rfl rfl (mod_cons (j := 108) rfl (fun _ _ h => h) mod_nil) (.cons .here (.cons .here (.cons .here (.cons .here .nil)))))
   ·
    refine w_condM h rfl (fun _ h => ?_) (fun _ h => ?_)
    ·
     refine wsr (oV (v_fa rfl GItem.f1 fd97_1) (oT (t_storeC (y' := ({ y558 with number := (0 : Int) } : GItem)) ty2 rfl rfl (fun _ _ h => h) .here rfl (rnf (wsr ?_)))))
     refine oA rfl (rnf (w_block (w_lp (ι := Int × GItem) (γ := Unit) (fun q562 g562 => [(13, ptrv b559 (Fld.id GItem)), (14, isv (q562.1))]) (fun q562 g562 => [boxE b559 (q562.2 : GItem)]) h () (mod_cons (j := 13) rfl (fun _ _ h => h) (mod_cons (j := 14) rfl (fun _ _ h => h) mod_nil)) (.cons .here .nil) (fun L563 q562 g562 Q590 h hL563 eL563 rL563 => w_seq ?_))))
     refine wsr (oM rfl (oM rfl (oV (v_ln (l := q354.1) rfl appv_isv sl84) (oV (v_lss rfl rfl) ?_))))
     refine rnf (w_condM h rfl (fun _ h => ?_) (fun _ h => ?_))
     ·
      refine wkf (w_seq (w_J (ι := GItem) (γ := Unit) (fun q577 g577 => [(13, ptrv b559 (Fld.id GItem))]) (fun q577 g577 => [boxE b559 (q577 : GItem)]) (.cons .here .nil) h (fun q577 g577 h => ?_) (fun J578 h hJ578 => ?_)))
      ·
       refine w_region (oM rfl (ck_inv h fun q589 h => oV (v_add rfl rfl q589) (oA rfl ?_)))
       exact rl_nil (hL563 _ () h _ (join_imp 10 rfl rfl (mod_cons (j := 13) rfl (fun _ _ h => h) (mod_cons (j := 14) rfl (fun _ _ h => h) mod_nil)) (.cons .here (.cons .here (.cons .here (.cons .here .nil))))))
      ·
       refine w_block (w_seq (wsr (oM rfl (oM rfl ?_))))
       refine cal_inv h fun y579 hy579 h => oV (v_ix (l := q354.1) rfl appv_isv rfl sl84 hy579) (oV (v_fi rfl GItem.f1 fd97_1 rfl (z := y579.number)) (oV (v_loadI ty2 rfl) (oV (v_eql rfl rfl) ?_)))
       refine rnf (w_condM h rfl (fun _ h => ?_) (fun _ h => ?_))
       ·
        refine wsr (oM rfl (cal_inv h fun y580 hy580 h => oT (t_call (r10_maker_fail_w hy580) hT (.same rfl (.same rfl .nil)) (.cons (.there (.there .here)) (.cons (.there (.there .here)) .nil)) (fun R H' hR => ?_))))
        obtain ⟨rfl, rfl⟩ := hR
        refine rnf (wsr (oA rfl (rnf (w_ret ?_))))
        refine ret_nxt (ret_block (ret_nxt (rL563 _ (ret_block ?_))))
        refine ret_nxt (ret_block (ret_nxt (rL355 _ (ret_block ?_))))
        refine ret_nxt (ret_post (.as rfl (nilv_isv (α := GItem)) .nil) (.cons .here (.cons .here .nil)) ?_)
        obtain rfl := Option.some.inj h
        exact ⟨rfl, rfl⟩
       ·
        refine wkf (w_seq (w_pinN 13 .here rfl (fun o581 hn582 => w_regionD (.v 0 (.v 1 (.v 2 (.v 3 (.v 4 (.v 5 (.v 6 (.v 7 (.v 8 (.v 9 (.v 10 (.v 11 .nil)))))))))))) moOrd (by kernel_rfl) ?_)))
        refine rvm rfl rfl (rd_v rfl (v_eql rfl rfl) (rvm rfl rfl (rd_j (jb 92) je .nil h 9 rfl (fun q583 g583 h => ?_) (fun J584 h hJ584 => ?_))))
        ·
         refine rd_nil (fin_unpinN 13 hn582 rfl (fin_nxt (w_condM h rfl (fun _ h => ?_) (fun _ h => ?_))))
         ·
          refine w_region (oM rfl (oM rfl (cal_inv h fun y587 hy587 h => oV (v_ix (l := q354.1) rfl appv_isv rfl sl84 hy587) ?_)))
          refine oV (v_fi rfl GItem.f1 fd97_1 rfl (z := y587.number)) (oV (v_loadI ty2 rfl) (ck_inv h fun q588 h => oV (v_add rfl rfl q588) (oV (v_fa rfl GItem.f1 fd97_1) ?_)))
          exact oT (t_storeC (y' := ({ q562.2 with number := (y587.number + (1 : Int)) } : GItem)) ty2 rfl rfl (fun _ _ h => h) .here rfl (rl_nil (fin_block (hJ578 _ () h _ (join_imp 19 rfl rfl (mod_cons (j := 13) rfl (fun _ _ h => h) mod_nil) (.cons .here (.cons .here (.cons .here (.cons .here .nil)))))))))
         ·
          exact w_skip (fin_block (hJ578 _ () h _ (join_imp 12 rfl rfl (mod_cons (j := 13) rfl (fun _ _ h => h) mod_nil) (.cons .here (.cons .here (.cons .here (.cons .here .nil)))))))
        ·
         refine rd_condM (j := 83) h rfl (fun g585 h => ?_) (fun g585 h => ?_)
         ·
          refine rpv 83 rfl rfl rfl g585 (rpv 83 rfl rfl rfl g585 (rpv 83 rfl rfl rfl g585 (rpv 83 rfl rfl rfl g585 (rpv 83 rfl rfl rfl g585 ?_))))
          exact rpv 83 rfl rfl rfl g585 (rpv 83 rfl rfl rfl g585 (rpv 83 rfl rfl rfl g585 (rd_v rfl (v_pick_t rfl g585 rfl) (hJ584 _ () h _ (join_imp 9 rfl rfl (mod_cons (j := 92) rfl (fun _ _ h => h) mod_nil) (.cons .here (.cons .here (.cons .here .nil))))))))
         ·
          refine rvt 83 rfl rfl rfl g585 (v_move rfl) (rvt 83 rfl rfl rfl g585 (v_move rfl) (cal_inv h fun y586 hy586 h => rvt 83 rfl rfl rfl g585 (v_ix (l := q354.1) rfl appv_isv rfl sl84 hy586) (rvt 83 rfl rfl rfl g585 (v_fi rfl GItem.f1 fd97_1 rfl (z := y586.number)) ?_)))
          refine rvt 83 rfl rfl rfl g585 (v_loadI ty2 rfl) (rvt 83 rfl rfl rfl g585 (v_fp rfl GItem.f1 fd97_1) (rvt 83 rfl rfl rfl g585 (v_lpC (R := isv (q562.2.number)) ty2 rfl (List.Mem.head _) (fun _ _ h => h)) (rvt 83 rfl rfl rfl g585 (v_geq rfl rfl) (rd_v rfl (v_pick_f rfl g585 rfl) ?_))))
          exact hJ584 _ () h _ (join_imp 9 rfl rfl (mod_cons (j := 92) rfl (fun _ _ h => h) mod_nil) (.cons .here (.cons .here (.cons .here .nil))))
     ·
      exact w_exit (exi_nxt (eL563 _ _ (exi_block (hJ561 _ () h _ (join_imp 8 rfl rfl (mod_cons (j := 13) rfl (fun _ _ h => h) mod_nil) (.cons .here (.cons .here (.cons .here (.cons .here .nil)))))))))
    ·
     exact w_skip (hJ561 _ () h _ (join_imp 0 rfl rfl (mod_cons (j := 13) rfl (fun _ _ h => h) mod_nil) (.cons .here (.cons .here (.cons .here (.cons .here .nil))))))
  ·
   refine w_exit (exi_nxt (eL355 _ _ (exi_block (fin_nxt ?_))))
   refine w_seq (wsr (oA rfl (rnf (w_block ?_))))
   refine w_lp (ι := Bool × Int) (γ := Unit) (fun q601 g601 => [(11, isv (q601.1)), (15, isv (q601.2))]) (fun q601 g601 => []) h () (mod_cons (j := 11) rfl (fun _ _ h => h) (mod_cons (j := 15) rfl (fun _ _ h => h) mod_nil)) .nil (fun L602 q601 g601 Q663 h hL602 eL602 rL602 => w_seq (wsr (oM rfl (oM rfl ?_))))
   refine oV (v_ln (l := q354.1) rfl appv_isv sl84) (oV (v_lss rfl rfl) (rnf (w_condM h rfl (fun _ h => ?_) (fun _ h => ?_))))
   ·
    refine wkf (w_seq (w_block (wsr (oA rfl ?_))))
    refine rnf (w_block (w_lp (ι := Bool × Int) (γ := Unit) (fun q633 g633 => [(11, isv (q633.1)), (16, isv (q633.2))]) (fun q633 g633 => []) h () (mod_cons (j := 11) rfl (fun _ _ h => h) (mod_cons (j := 16) rfl (fun _ _ h => h) mod_nil)) .nil (fun L634 q633 g633 Q659 h hL634 eL634 rL634 => w_seq (wsr ?_))))
    refine oM rfl (oM rfl (oV (v_lss rfl rfl) (rnf (w_condM h rfl (fun _ h => ?_) (fun _ h => ?_)))))
    ·
     refine wkf (w_seq (w_block (w_regionD (.v 0 (.v 1 (.v 2 (.v 3 (.v 4 (.v 5 (.v 6 (.v 7 (.v 8 (.v 9 (.v 10 (.v 11 (.v 12 (.v 13 (.v 14 (.v 15 (.v 16 (.v 17 (.v 18 (.v 19 (.v 20 (.v 21 (.v 22 (.v 23 (.v 24 (.v 25 (.v 26 (.v 27 .nil)))))))))))))))))))))))))))) moOrd (by kernel_rfl) ?_)))
     refine rvm rfl rfl (rvm rfl rfl (rd_j (jb 141) je .nil h 12 rfl (fun q647 g647 h => ?_) (fun J648 h hJ648 => ?_)))
     ·
      refine rvm rfl rfl (rd_j (jb 154) je .nil h 12 rfl (fun q652 g652 h => ?_) (fun J653 h hJ653 => ?_))
      ·
       refine rd_v rfl (v_assign rfl) (rd_nil (fin_block (fin_nxt (w_region ?_))))
       refine oM rfl (ck_inv h fun q657 h => oV (v_add rfl rfl q657) (oA rfl (rl_nil ?_)))
       exact hL634 _ () h _ (join_imp 14 rfl rfl (mod_cons (j := 11) rfl (fun _ _ h => h) (mod_cons (j := 16) rfl (fun _ _ h => h) mod_nil)) (.cons .here (.cons .here (.cons .here .nil))))
      ·
       refine rd_condM (j := 142) h rfl (fun g654 h => ?_) (fun g654 h => ?_)
       ·
        refine rpv 142 rfl rfl rfl g654 (rpv 142 rfl rfl rfl g654 (rpv 142 rfl rfl rfl g654 (rpv 142 rfl rfl rfl g654 (rpv 142 rfl rfl rfl g654 ?_))))
        refine rpv 142 rfl rfl rfl g654 (rpv 142 rfl rfl rfl g654 (rpv 142 rfl rfl rfl g654 (rpv 142 rfl rfl rfl g654 (rpv 142 rfl rfl rfl g654 ?_))))
        exact rpv 142 rfl rfl rfl g654 (rd_v rfl (v_pick_t rfl g654 rfl) (hJ653 _ () h _ (join_imp 12 rfl rfl (mod_cons (j := 154) rfl (fun _ _ h => h) mod_nil) (.cons .here (.cons .here (.cons .here .nil))))))
       ·
        refine rvt 142 rfl rfl rfl g654 (v_move rfl) (rvt 142 rfl rfl rfl g654 (v_move rfl) (cal_inv h fun y655 hy655 h => rvt 142 rfl rfl rfl g654 (v_ix (l := q354.1) rfl appv_isv rfl sl84 hy655) (rvt 142 rfl rfl rfl g654 (v_fi rfl GItem.f1 fd97_1 rfl (z := y655.number)) ?_)))
        refine rvt 142 rfl rfl rfl g654 (v_loadI ty2 rfl) (rvt 142 rfl rfl rfl g654 (v_move rfl) (rvt 142 rfl rfl rfl g654 (v_move rfl) (cal_inv h fun y656 hy656 h => rvt 142 rfl rfl rfl g654 (v_ix (l := q354.1) rfl appv_isv rfl sl84 hy656) ?_)))
        exact rvt 142 rfl rfl rfl g654 (v_fi rfl GItem.f1 fd97_1 rfl (z := y656.number)) (rvt 142 rfl rfl rfl g654 (v_loadI ty2 rfl) (rvt 142 rfl rfl rfl g654 (v_eql rfl rfl) (rd_v rfl (v_pick_f rfl g654 rfl) (hJ653 _ () h _ (join_imp 12 rfl rfl (mod_cons (j := 154) rfl (fun _ _ h => h) mod_nil) (.cons .here (.cons .here (.cons .here .nil))))))))
     ·
      refine rd_condM (j := 129) h rfl (fun g649 h => ?_) (fun g649 h => ?_)
      ·
       refine rpv 129 rfl rfl rfl g649 (rpv 129 rfl rfl rfl g649 (rpv 129 rfl rfl rfl g649 (rpv 129 rfl rfl rfl g649 (rpv 129 rfl rfl rfl g649 ?_))))
       refine rpv 129 rfl rfl rfl g649 (rpv 129 rfl rfl rfl g649 (rpv 129 rfl rfl rfl g649 (rpv 129 rfl rfl rfl g649 (rpv 129 rfl rfl rfl g649 ?_))))
       exact rpv 129 rfl rfl rfl g649 (rd_v rfl (v_pick_t rfl g649 rfl) (hJ648 _ () h _ (join_imp 12 rfl rfl (mod_cons (j := 141) rfl (fun _ _ h => h) mod_nil) (.cons .here (.cons .here (.cons .here .nil))))))
      ·
       refine rvt 129 rfl rfl rfl g649 (v_move rfl) (rvt 129 rfl rfl rfl g649 (v_move rfl) (cal_inv h fun y650 hy650 h => rvt 129 rfl rfl rfl g649 (v_ix (l := q354.1) rfl appv_isv rfl sl84 hy650) (rvt 129 rfl rfl rfl g649 (v_fi rfl GItem.f0 fd97_0 rfl (z := y650.name)) ?_)))
       refine rvt 129 rfl rfl rfl g649 (v_loadI ty9 rfl) (rvt 129 rfl rfl rfl g649 (v_move rfl) (rvt 129 rfl rfl rfl g649 (v_move rfl) (cal_inv h fun y651 hy651 h => rvt 129 rfl rfl rfl g649 (v_ix (l := q354.1) rfl appv_isv rfl sl84 hy651) ?_)))
       exact rvt 129 rfl rfl rfl g649 (v_fi rfl GItem.f0 fd97_0 rfl (z := y651.name)) (rvt 129 rfl rfl rfl g649 (v_loadI ty9 rfl) (rvt 129 rfl rfl rfl g649 (v_eqA eq9 rfl rfl) (rd_v rfl (v_pick_f rfl g649 rfl) (hJ648 _ () h _ (join_imp 12 rfl rfl (mod_cons (j := 141) rfl (fun _ _ h => h) mod_nil) (.cons .here (.cons .here (.cons .here .nil))))))))
    ·
     refine w_exit (exi_nxt (eL634 _ _ (exi_block (fin_block ?_))))
     refine fin_nxt (w_region (oM rfl (ck_inv h fun q658 h => oV (v_add rfl rfl q658) ?_)))
     exact oA rfl (rl_nil (hL602 _ () h _ (join_imp 15 rfl rfl (mod_cons (j := 11) rfl (fun _ _ h => h) (mod_cons (j := 15) rfl (fun _ _ h => h) mod_nil)) (.cons .here (.cons .here (.cons .here .nil))))))
   ·
    refine w_exit (exi_nxt (eL602 _ _ (exi_block (fin_nxt ?_))))
    refine w_seq (wsr (oM rfl (rnf (w_J (ι := GMk) (γ := Unit) (fun q660 g660 => []) (fun q660 g660 => [boxE b_a_x ((q660.m, (Vh.mk v_a_x1 q660.l.length), q660.e) : (GMod × Vh × Int)), vecE v_a_x1 (q660.l : List GTyp)]) (.cons (.there .here) (.cons (.there .here) .nil)) h (fun q660 g660 h => ?_) (fun J661 h hJ661 => ?_)))))
    ·
     refine wsr (oM rfl (oA rfl (rnf (w_ret ?_))))
     refine ret_post (.as rfl appv_isv .nil) (.cons .here (.cons .here .nil)) ?_
     obtain rfl := Option.some.inj h
     exact ⟨rfl, rfl⟩
    ·
     refine w_condM h rfl (fun _ h => ?_) (fun _ h => ?_)
     ·
      refine w_region (oM rfl (cal_inv h fun y662 hy662 h => oT (t_call (r10_maker_fail_w hy662) hT (.same rfl (.same rfl .nil)) (.cons (.there .here) (.cons (.there .here) .nil)) (fun R H' hR => ?_))))
      obtain ⟨rfl, rfl⟩ := hR
      exact rl_nil (hJ661 _ () h _ (join_imp 2 rfl rfl mod_nil (.cons .here (.cons .here (.cons .here .nil)))))
     ·
      exact w_skip (hJ661 _ () h _ (join_imp 0 rfl rfl mod_nil (.cons (.there .here) (.cons (.there .here) (.cons .here .nil)))))


theorem r08_Within_w : ∀ {a_c : GCon} {a_v : Int} {r : Bool}, r08_Within a_c a_v = some r → Ctr Tryz.prog 91 [isv (a_c), isv (a_v)] [] (fun R H => R = oneOf [isv (r)] ∧ H = []) := by
 intro a_c a_v r h
 unfold r08_Within at h
 refine spec_intro Tryz.func91 rfl (by decide +kernel) (by rfl) fun w0 S0 hT => ?_
 refine wsr (oT (t_boxIC (y := a_c) rfl (fun _ _ h => h) (oA rfl (rnf (wsr ?_)))))
 refine oV (v_fi rfl GCon.f0 fd83_0 rfl (z := a_c.has)) (oV (v_loadI ty4 rfl) (oV (v_not rfl) (oM rfl (rl_j (jb 29) je .nil h 21 rfl (fun q1 g1 h => ?_) (fun J2 h hJ2 => ?_)))))
 ·
  refine oA rfl (rnf (w_ret (ret_post (.tmp rfl .nil) .nil ?_)))
  obtain rfl := Option.some.inj h
  exact ⟨rfl, rfl⟩
 ·
  refine rl_condM (j := 8) h rfl (fun g3 h => ?_) (fun g3 h => ?_)
  ·
   refine oP 8 rfl rfl g3 (oP 8 rfl rfl g3 (oP 8 rfl rfl g3 (oP 8 rfl rfl g3 (op_passU rfl (dj := 12) rfl ?_))))
   refine op_passU rfl (dj := 12) rfl (op_passU rfl (dj := 12) rfl (op_passU rfl (dj := 12) rfl (oP 8 rfl rfl g3 (oP 8 rfl rfl g3 ?_))))
   refine op_passU rfl (dj := 18) rfl (op_passU rfl (dj := 18) rfl (op_passU rfl (dj := 18) rfl (op_passU rfl (dj := 18) rfl (op_passU rfl (dj := 22) rfl ?_))))
   refine op_passU rfl (dj := 22) rfl (op_passU rfl (dj := 22) rfl (op_passU rfl (dj := 22) rfl (op_passU rfl (dj := 18) rfl (oP 8 rfl rfl g3 ?_))))
   exact oV (v_pick_t rfl g3 rfl) (hJ2 _ () h _ (ji 21 29 rfl rfl rfl))
  ·
   refine oK 8 rfl rfl rfl g3 (v_fi rfl GCon.f1 fd83_1 rfl (z := a_c.hasLow)) (oK 8 rfl rfl rfl g3 (v_loadI ty4 rfl) (oK 8 rfl rfl rfl g3 (v_not rfl) (oK 8 rfl rfl rfl g3 (v_move rfl) (rl_j (jb 17) je .nil h 5 rfl (fun q4 g4 h => ?_) (fun J5 h hJ5 => ?_)))))
   ·
    refine oK 8 rfl rfl rfl g3 (v_move rfl) (rl_j (jb 28) je .nil h 10 rfl (fun q7 g7 h => ?_) (fun J8 h hJ8 => ?_))
    ·
     exact oV (v_pick_f rfl g3 rfl) (hJ2 _ () h _ (ji 8 29 rfl rfl rfl))
    ·
     refine rl_condM (j := 18) h rfl (fun g9 h => ?_) (fun g9 h => ?_)
     ·
      refine oK 18 rfl rfl rfl g9 (v_fi rfl GCon.f2 fd83_2 rfl (z := a_c.hasHigh)) (oK 18 rfl rfl rfl g9 (v_loadI ty4 rfl) (oK 18 rfl rfl rfl g9 (v_not rfl) (oK 18 rfl rfl rfl g9 (v_move rfl) (rl_j (jb 27) je .nil h 5 rfl (fun q10 g10 h => ?_) (fun J11 h hJ11 => ?_)))))
      ·
       exact oK 8 rfl rfl rfl g3 (v_pick_t rfl g9 rfl) (hJ8 _ () h _ (ji 6 28 rfl rfl rfl))
      ·
       refine rl_condM (j := 22) h rfl (fun g12 h => ?_) (fun g12 h => ?_)
       ·
        refine oP 22 rfl rfl g12 (oP 22 rfl rfl g12 (oP 22 rfl rfl g12 (oP 22 rfl rfl g12 (oK 18 rfl rfl rfl g9 (v_pick_t rfl g12 rfl) ?_))))
        exact hJ11 _ () h _ (ji 5 27 rfl rfl rfl)
       ·
        refine oK 22 rfl rfl rfl g12 (v_move rfl) (oK 22 rfl rfl rfl g12 (v_fi rfl GCon.f5 fd83_5 rfl (z := a_c.high)) (oK 22 rfl rfl rfl g12 (v_loadI ty2 rfl) (oK 22 rfl rfl rfl g12 (v_leq rfl rfl) (oK 18 rfl rfl rfl g9 (v_pick_f rfl g12 rfl) ?_))))
        exact hJ11 _ () h _ (ji 5 27 rfl rfl rfl)
     ·
      refine oP 18 rfl rfl g9 (oP 18 rfl rfl g9 (oP 18 rfl rfl g9 (oP 18 rfl rfl g9 (op_passU rfl (dj := 22) rfl ?_))))
      refine op_passU rfl (dj := 22) rfl (op_passU rfl (dj := 22) rfl (op_passU rfl (dj := 22) rfl (oP 18 rfl rfl g9 (oK 8 rfl rfl rfl g3 (v_pick_f rfl g9 rfl) ?_))))
      exact hJ8 _ () h _ (ji 10 28 rfl rfl rfl)
   ·
    refine rl_condM (j := 12) h rfl (fun g6 h => ?_) (fun g6 h => ?_)
    ·
     refine oP 12 rfl rfl g6 (oP 12 rfl rfl g6 (oP 12 rfl rfl g6 (oP 12 rfl rfl g6 (oK 8 rfl rfl rfl g3 (v_pick_t rfl g6 rfl) ?_))))
     exact hJ5 _ () h _ (ji 5 17 rfl rfl rfl)
    ·
     refine oK 12 rfl rfl rfl g6 (v_move rfl) (oK 12 rfl rfl rfl g6 (v_fi rfl GCon.f4 fd83_4 rfl (z := a_c.low)) (oK 12 rfl rfl rfl g6 (v_loadI ty2 rfl) (oK 12 rfl rfl rfl g6 (v_geq rfl rfl) (oK 8 rfl rfl rfl g3 (v_pick_f rfl g6 rfl) ?_))))
     exact hJ5 _ () h _ (ji 5 17 rfl rfl rfl)


theorem utf8_word_Lbyte_w : ∀ {a_s : (List UInt8)} {r : UInt64}, utf8_word_Lbyte a_s = some r → Ctr Tryz.prog 131 [isv (a_s)] [] (fun R H => R = oneOf [isv (r)] ∧ H = []) := by
 intro a_s r h
 unfold utf8_word_Lbyte at h
 refine spec_intro Tryz.func131 rfl (by decide +kernel) (by rfl) fun w0 S0 hT => ?_
 refine wsr (oA rfl (rnf (w_seq (w_cond_f rfl rfl ?_))))
 refine wkf (w_seq (w_regionD (.v 0 (.v 1 (.v 2 (.v 3 (.v 4 (.v 5 (.v 6 (.v 7 (.v 8 (.v 9 (.v 10 (.v 11 (.v 12 (.v 13 (.v 14 (.v 15 (.v 16 (.v 17 (.v 18 (.v 19 (.v 20 (.v 21 (.v 22 (.v 23 (.v 24 (.v 25 (.v 26 (.v 27 (.v 28 (.v 29 (.v 30 (.v 31 (.v 32 (.v 33 (.v 34 (.v 35 (.v 36 (.v 37 (.v 38 (.v 39 (.v 40 (.v 41 (.v 42 (.v 43 (.v 44 (.v 45 (.v 46 .nil))))))))))))))))))))))))))))))))))))))))))))))) moOrd (by kernel_rfl) ?_))
 refine rvm rfl rfl (cal_inv h fun y1 hy1 h => rd_v rfl (v_ix (l := a_s) rfl (fun _ _ h => h) rfl sl42 hy1) (rd_v rfl (v_loadI ty5 rfl) (rd_v rfl (v_u8u64 Tryz.underlying5 Tryz.underlying41 rfl) ?_)))
 refine rvm rfl rfl (cal_inv h fun y2 hy2 h => rd_v rfl (v_ix (l := a_s) rfl (fun _ _ h => h) rfl sl42 hy2) (rd_v rfl (v_loadI ty5 rfl) (rd_v rfl (v_u8u64 Tryz.underlying5 Tryz.underlying41 rfl) ?_)))
 refine asr_inv h fun q3 h => rd_v rfl (v_shl64 rfl rfl q3) (rd_v rfl (v_or64 rfl rfl) (rvm rfl rfl (cal_inv h fun y4 hy4 h => ?_)))
 refine rd_v rfl (v_ix (l := a_s) rfl (fun _ _ h => h) rfl sl42 hy4) (rd_v rfl (v_loadI ty5 rfl) (rd_v rfl (v_u8u64 Tryz.underlying5 Tryz.underlying41 rfl) (asr_inv h fun q5 h => rd_v rfl (v_shl64 rfl rfl q5) ?_)))
 refine rd_v rfl (v_or64 rfl rfl) (rvm rfl rfl (cal_inv h fun y6 hy6 h => rd_v rfl (v_ix (l := a_s) rfl (fun _ _ h => h) rfl sl42 hy6) (rd_v rfl (v_loadI ty5 rfl) ?_)))
 refine rd_v rfl (v_u8u64 Tryz.underlying5 Tryz.underlying41 rfl) (asr_inv h fun q7 h => rd_v rfl (v_shl64 rfl rfl q7) (rd_v rfl (v_or64 rfl rfl) (rvm rfl rfl ?_)))
 refine cal_inv h fun y8 hy8 h => rd_v rfl (v_ix (l := a_s) rfl (fun _ _ h => h) rfl sl42 hy8) (rd_v rfl (v_loadI ty5 rfl) (rd_v rfl (v_u8u64 Tryz.underlying5 Tryz.underlying41 rfl) (asr_inv h fun q9 h => ?_)))
 refine rd_v rfl (v_shl64 rfl rfl q9) (rd_v rfl (v_or64 rfl rfl) (rvm rfl rfl (cal_inv h fun y10 hy10 h => rd_v rfl (v_ix (l := a_s) rfl (fun _ _ h => h) rfl sl42 hy10) ?_)))
 refine rd_v rfl (v_loadI ty5 rfl) (rd_v rfl (v_u8u64 Tryz.underlying5 Tryz.underlying41 rfl) (asr_inv h fun q11 h => rd_v rfl (v_shl64 rfl rfl q11) (rd_v rfl (v_or64 rfl rfl) ?_)))
 refine rvm rfl rfl (cal_inv h fun y12 hy12 h => rd_v rfl (v_ix (l := a_s) rfl (fun _ _ h => h) rfl sl42 hy12) (rd_v rfl (v_loadI ty5 rfl) (rd_v rfl (v_u8u64 Tryz.underlying5 Tryz.underlying41 rfl) ?_)))
 refine asr_inv h fun q13 h => rd_v rfl (v_shl64 rfl rfl q13) (rd_v rfl (v_or64 rfl rfl) (rvm rfl rfl (cal_inv h fun y14 hy14 h => ?_)))
 refine rd_v rfl (v_ix (l := a_s) rfl (fun _ _ h => h) rfl sl42 hy14) (rd_v rfl (v_loadI ty5 rfl) (rd_v rfl (v_u8u64 Tryz.underlying5 Tryz.underlying41 rfl) (asr_inv h fun q15 h => rd_v rfl (v_shl64 rfl rfl q15) ?_)))
 refine rd_v rfl (v_or64 rfl rfl) (rd_v rfl (v_assign rfl) (rd_nil (fin_nxt (w_ret ?_))))
 refine ret_post (.tmp rfl .nil) .nil ?_
 obtain rfl := Option.some.inj h
 exact ⟨rfl, rfl⟩


theorem utf8_Valid_w : ∀ {a_p : (List UInt8)} {r : Bool}, utf8_Valid a_p = some r → Ctr Tryz.prog 93 [isv (a_p)] [] (fun R H => R = oneOf [isv (r)] ∧ H = []) := by
 intro a_p r h
 unfold utf8_Valid at h
 refine spec_intro Tryz.func93 rfl (by decide +kernel) (by rfl) fun w0 S0 hT => ?_
 refine wsr (oA rfl (rnf (wsr (oM rfl ?_))))
 refine oM rfl (oV (v_ln (l := a_p) rfl (fun _ _ h => h) sl42) (oM rfl (oV (v_ln (l := a_p) rfl (fun _ _ h => h) sl42) (asd_inv h fun q1 h => ?_))))
 refine oV (v_sl3 (l := a_p) rfl (fun _ _ h => h) sl42 rfl rfl q1.1 q1.2) (oA rfl (rnf (w_seq (w_block ?_))))
 refine w_lp (ι := (List UInt8)) (γ := Unit) (fun q2 g2 => [(0, isv (q2))]) (fun q2 g2 => []) h () (mod_cons (j := 0) rfl (fun _ _ h => h) mod_nil) .nil (fun L3 q2 g2 Q194 h hL3 eL3 rL3 => w_seq (wsr (oM rfl (oV (v_ln (l := q2) rfl (fun _ _ h => h) sl42) ?_))))
 refine oV (v_gtr rfl rfl) (rnf (w_condM h rfl (fun _ h => ?_) (fun _ h => ?_)))
 ·
  refine wkf (w_block (wsr (oM rfl (cal_inv h fun y99 hy99 h => ?_))))
  refine oV (v_ix (l := q2) rfl (fun _ _ h => h) rfl sl42 hy99) (oV (v_loadI ty5 rfl) (oA rfl (rnf (w_seq ?_))))
  refine wsr (oM rfl (oV (v_lss8 rfl rfl) (rnf (w_condM h rfl (fun _ h => ?_) (fun _ h => ?_)))))
  ·
   refine wsr (oM rfl (asd_inv h fun q100 h => oV (v_sl (l := q2) rfl (fun _ _ h => h) sl42 (.inr ⟨_, rfl, rfl⟩) (.inl ⟨rfl, rfl⟩) q100.1 q100.2.1 q100.2.2) (oA rfl ?_)))
   refine rnf (w_seq (wsr (oM rfl (oV (v_ln (l := ((q2.take ((q2.length : Int)).toNat).drop ((1 : Int)).toNat)) rfl (fun _ _ h => h) sl42) ?_))))
   refine oV (v_gtr rfl rfl) (oM rfl (rl_j (jb 31) je .nil h 5 rfl (fun q101 g101 h => ?_) (fun J102 h hJ102 => ?_)))
   ·
    refine rnf (w_J (ι := (List UInt8)) (γ := Unit) (fun q105 g105 => [(0, isv (q105))]) (fun q105 g105 => []) .nil h (fun q105 g105 h => ?_) (fun J106 h hJ106 => ?_))
    ·
     exact w_exit (exi_nxt (exi_block (hL3 _ () h _ (ji 19 0 rfl rfl rfl))))
    ·
     refine w_condM h rfl (fun _ h => ?_) (fun _ h => ?_)
     ·
      refine wsr (oM rfl (asd_inv h fun q107 h => oV (v_sl (l := ((q2.take ((q2.length : Int)).toNat).drop ((1 : Int)).toNat)) rfl (fun _ _ h => h) sl42 (.inr ⟨_, rfl, rfl⟩) (.inl ⟨rfl, rfl⟩) q107.1 q107.2.1 q107.2.2) (oA rfl ?_)))
      refine rnf (w_seq (w_regionD (.v 0 (.v 1 (.v 2 (.v 3 (.v 4 (.v 6 (.v 7 (.t 5 (.t 8 (.v 9 (.v 10 (.v 11 (.v 12 .nil))))))))))))) moOrd (by kernel_rfl) ?_))
      refine rvm rfl rfl (rd_v rfl (v_ln (l := ((((q2.take ((q2.length : Int)).toNat).drop ((1 : Int)).toNat).take ((((q2.take ((q2.length : Int)).toNat).drop ((1 : Int)).toNat).length : Int)).toNat).drop ((8 : Int)).toNat)) rfl (fun _ _ h => h) sl42) (rd_v rfl (v_gtr rfl rfl) (rvm rfl rfl (rd_j (jb 46) je .nil h 9 rfl (fun q108 g108 h => ?_) (fun J109 h hJ109 => ?_)))))
      ·
       refine rd_nil (fin_nxt (w_condM h rfl (fun _ h => ?_) (fun _ h => ?_)))
       ·
        refine wsr (oM rfl (asd_inv h fun q114 h => oV (v_sl (l := ((((q2.take ((q2.length : Int)).toNat).drop ((1 : Int)).toNat).take ((((q2.take ((q2.length : Int)).toNat).drop ((1 : Int)).toNat).length : Int)).toNat).drop ((8 : Int)).toNat)) rfl (fun _ _ h => h) sl42 (.inr ⟨_, rfl, rfl⟩) (.inl ⟨rfl, rfl⟩) q114.1 q114.2.1 q114.2.2) (oA rfl ?_)))
        refine rnf (w_block (w_lp (ι := (List UInt8)) (γ := Unit) (fun q115 g115 => [(0, isv (q115))]) (fun q115 g115 => []) h () (mod_cons (j := 0) rfl (fun _ _ h => h) mod_nil) .nil (fun L116 q115 g115 Q139 h hL116 eL116 rL116 => w_seq (w_seq ?_))))
        refine w_regionD (.v 0 (.v 1 (.v 2 (.v 3 (.v 4 (.v 6 (.v 7 (.v 10 (.v 11 (.v 13 (.v 14 (.t 5 (.t 8 (.v 9 (.t 12 (.t 15 (.v 16 (.v 17 (.v 18 (.v 19 (.v 20 .nil))))))))))))))))))))) moOrd (by kernel_rfl) ?_
        refine rvm rfl rfl (rd_v rfl (v_ln (l := q115) rfl (fun _ _ h => h) sl42) (rd_v rfl (v_gtr rfl rfl) (rvm rfl rfl (rd_j (jb 69) je .nil h 17 rfl (fun q128 g128 h => ?_) (fun J129 h hJ129 => ?_)))))
        ·
         refine rd_nil (fin_nxt (w_condM h rfl (fun _ h => ?_) (fun _ h => ?_)))
         ·
          refine wkf (w_block (w_region (oM rfl (asd_inv h fun q138 h => ?_))))
          exact oV (v_sl (l := q115) rfl (fun _ _ h => h) sl42 (.inr ⟨_, rfl, rfl⟩) (.inl ⟨rfl, rfl⟩) q138.1 q138.2.1 q138.2.2) (oA rfl (rl_nil (fin_block (hL116 _ () h _ (ji 9 0 rfl rfl rfl)))))
         ·
          exact w_exit (exi_nxt (eL116 _ _ (exi_block (hJ106 _ () h _ (ji 17 0 rfl rfl rfl)))))
        ·
         refine rd_condM (j := 52) h rfl (fun g130 h => ?_) (fun g130 h => ?_)
         ·
          refine rvt 52 rfl rfl rfl g130 (v_move rfl) (rvt 52 rfl rfl rfl g130 (v_move rfl) (asd_inv h fun q131 h => rvt 52 rfl rfl rfl g130 (v_sl (l := q115) rfl (fun _ _ h => h) sl42 (.inr ⟨_, rfl, rfl⟩) (.inl ⟨rfl, rfl⟩) q131.1 q131.2.1 q131.2.2) (rvt 52 rfl rfl rfl g130 (v_move rfl) ?_)))
          refine asd_inv h fun q132 h => rvt 52 rfl rfl rfl g130 (v_sl (l := q115) rfl (fun _ _ h => h) sl42 (.inr ⟨_, rfl, rfl⟩) (.inl ⟨rfl, rfl⟩) q132.1 q132.2.1 q132.2.2) (rvt 52 rfl rfl rfl g130 (v_move rfl) (asd_inv h fun q133 h => rvt 52 rfl rfl rfl g130 (v_sl (l := q115) rfl (fun _ _ h => h) sl42 (.inr ⟨_, rfl, rfl⟩) (.inl ⟨rfl, rfl⟩) q133.1 q133.2.1 q133.2.2) ?_))
          refine cal_inv h fun y134 hy134 h => rd_tt rfl rfl rfl (dj := 52) rfl g130 (t_call (utf8_word_Lbyte_w hy134) hT (.same rfl .nil) .nil (fun R H' hR => ?_))
          obtain ⟨rfl, rfl⟩ := hR
          refine cal_inv h fun y135 hy135 h => rd_tt rfl rfl rfl (dj := 52) rfl g130 (t_call (utf8_word_Lbyte_w hy135) hT (.same rfl .nil) .nil (fun R H' hR => ?_))
          obtain ⟨rfl, rfl⟩ := hR
          refine rvt 52 rfl rfl rfl g130 (v_or64 rfl rfl) (cal_inv h fun y136 hy136 h => rd_tt rfl rfl rfl (dj := 52) rfl g130 (t_call (utf8_word_Lbyte_w hy136) hT (.same rfl .nil) .nil (fun R H' hR => ?_)))
          obtain ⟨rfl, rfl⟩ := hR
          refine cal_inv h fun y137 hy137 h => rd_tt rfl rfl rfl (dj := 52) rfl g130 (t_call (utf8_word_Lbyte_w hy137) hT (.same rfl .nil) .nil (fun R H' hR => ?_))
          obtain ⟨rfl, rfl⟩ := hR
          refine rvt 52 rfl rfl rfl g130 (v_or64 rfl rfl) (rvt 52 rfl rfl rfl g130 (v_or64 rfl rfl) (rvt 52 rfl rfl rfl g130 (v_and64 rfl rfl) (rvt 52 rfl rfl rfl g130 (v_eql64 rfl rfl) (rd_v rfl (v_pick_t rfl g130 rfl) ?_))))
          exact hJ129 _ () h _ (ji 17 69 rfl rfl rfl)
         ·
          refine rpv 52 rfl rfl rfl g130 (rpv 52 rfl rfl rfl g130 (rpv 52 rfl rfl rfl g130 (rpv 52 rfl rfl rfl g130 (rpv 52 rfl rfl rfl g130 ?_))))
          refine rpv 52 rfl rfl rfl g130 (rpv 52 rfl rfl rfl g130 (rd_passT rfl rfl (dj := 52) rfl g130 (rd_passT rfl rfl (dj := 52) rfl g130 (rpv 52 rfl rfl rfl g130 ?_))))
          refine rd_passT rfl rfl (dj := 52) rfl g130 (rd_passT rfl rfl (dj := 52) rfl g130 (rpv 52 rfl rfl rfl g130 (rpv 52 rfl rfl rfl g130 (rpv 52 rfl rfl rfl g130 ?_))))
          exact rpv 52 rfl rfl rfl g130 (rd_v rfl (v_pick_f rfl g130 rfl) (hJ129 _ () h _ (ji 17 69 rfl rfl rfl)))
       ·
        exact w_skip (hJ106 _ () h _ (ji 8 0 rfl rfl rfl))
      ·
       refine rd_condM (j := 37) h rfl (fun g110 h => ?_) (fun g110 h => ?_)
       ·
        refine rvt 37 rfl rfl rfl g110 (v_move rfl) (rvt 37 rfl rfl rfl g110 (v_move rfl) (asd_inv h fun q111 h => rvt 37 rfl rfl rfl g110 (v_sl (l := ((((q2.take ((q2.length : Int)).toNat).drop ((1 : Int)).toNat).take ((((q2.take ((q2.length : Int)).toNat).drop ((1 : Int)).toNat).length : Int)).toNat).drop ((8 : Int)).toNat)) rfl (fun _ _ h => h) sl42 (.inr ⟨_, rfl, rfl⟩) (.inl ⟨rfl, rfl⟩) q111.1 q111.2.1 q111.2.2) (cal_inv h fun y112 hy112 h => ?_)))
        refine rd_tt rfl rfl rfl (dj := 37) rfl g110 (t_call (utf8_word_Lbyte_w hy112) hT (.same rfl .nil) .nil (fun R H' hR => ?_))
        obtain ⟨rfl, rfl⟩ := hR
        refine cal_inv h fun y113 hy113 h => rd_tt rfl rfl rfl (dj := 37) rfl g110 (t_call (utf8_word_Lbyte_w hy113) hT (.same rfl .nil) .nil (fun R H' hR => ?_))
        obtain ⟨rfl, rfl⟩ := hR
        exact rvt 37 rfl rfl rfl g110 (v_or64 rfl rfl) (rvt 37 rfl rfl rfl g110 (v_and64 rfl rfl) (rvt 37 rfl rfl rfl g110 (v_eql64 rfl rfl) (rd_v rfl (v_pick_t rfl g110 rfl) (hJ109 _ () h _ (ji 9 46 rfl rfl rfl)))))
       ·
        refine rpv 37 rfl rfl rfl g110 (rpv 37 rfl rfl rfl g110 (rpv 37 rfl rfl rfl g110 (rd_passT rfl rfl (dj := 37) rfl g110 (rd_passT rfl rfl (dj := 37) rfl g110 ?_))))
        exact rpv 37 rfl rfl rfl g110 (rpv 37 rfl rfl rfl g110 (rpv 37 rfl rfl rfl g110 (rd_v rfl (v_pick_f rfl g110 rfl) (hJ109 _ () h _ (ji 9 46 rfl rfl rfl)))))
     ·
      exact w_skip (hJ106 _ () h _ (ji 0 0 rfl rfl rfl))
   ·
    refine rl_condM (j := 26) h rfl (fun g103 h => ?_) (fun g103 h => ?_)
    ·
     refine oK 26 rfl rfl rfl g103 (v_move rfl) (cal_inv h fun y104 hy104 h => op_take rfl rfl (dj := 26) rfl g103 (t_call (utf8_word_Lbyte_w hy104) hT (.same rfl .nil) .nil (fun R H' hR => ?_)))
     obtain ⟨rfl, rfl⟩ := hR
     exact oK 26 rfl rfl rfl g103 (v_and64 rfl rfl) (oK 26 rfl rfl rfl g103 (v_eql64 rfl rfl) (oV (v_pick_t rfl g103 rfl) (hJ102 _ () h _ (ji 5 31 rfl rfl rfl))))
    ·
     refine oP 26 rfl rfl g103 (oP 26 rfl rfl g103 (oP 26 rfl rfl g103 (oP 26 rfl rfl g103 (oV (v_pick_f rfl g103 rfl) ?_))))
     exact hJ102 _ () h _ (ji 5 31 rfl rfl rfl)
  ·
   refine wkf (wsr (oM rfl (oV (v_t1 gl_first ar190 rfl) (oV (v_t1l hT ty5 rfl _ gl_acceptRanges) ?_))))
   refine oA rfl (rnf (wsr (oM rfl (oV (v_and8 rfl rfl) ?_))))
   refine oV (v_u8i Tryz.underlying5 Tryz.underlying3 rfl) (oA rfl (rnf (wsr (oM rfl ?_))))
   refine asr_inv h fun q140 h => oV (v_shr8 rfl rfl q140) (asr_inv h fun q141 h => oV (v_t2 gl_acceptRanges ar193 rfl q141) (oV (v_t2l hT ty192 rfl q141 _ gl_first) ?_))
   refine oT (t_alloc _ ze192 fun b142 => oT (t_storeC (y' := ((tab2 (shr8 (tab1 y99) (4 : UInt64).toNat)) : GAcc)) ty192 rfl rfl (fun _ _ h => h) .here rfl (rl_upd (upd_imm 6 .here rfl) (rnf (wsr ?_)))))
   refine oM rfl (rnf (w_block (wsr (oV (v_eql rfl rfl) ?_))))
   refine oA rfl (rnf (w_condM h rfl (fun _ h => ?_) (fun _ h => ?_)))
   ·
    refine w_seq (w_seq (w_regionD (.v 0 (.v 1 (.v 2 (.v 3 (.v 4 (.v 5 (.v 6 (.v 7 (.v 8 (.v 9 (.v 10 (.v 11 (.v 12 (.v 13 (.v 14 (.v 15 (.v 16 (.v 17 (.v 18 .nil))))))))))))))))))) moOrd (by kernel_rfl) ?_))
    refine rvm rfl rfl (rd_v rfl (v_ln (l := q2) rfl (fun _ _ h => h) sl42) (rd_v rfl (v_lss rfl rfl) (rvm rfl rfl (rd_j (jb 95) je .nil h 7 rfl (fun q143 g143 h => ?_) (fun J144 h hJ144 => ?_)))))
    ·
     refine rvm rfl rfl (rd_j (jb 103) je .nil h 7 rfl (fun q147 g147 h => ?_) (fun J148 h hJ148 => ?_))
     ·
      refine rd_nil (fin_nxt (w_condM h rfl (fun _ h => ?_) (fun _ h => ?_)))
      ·
       refine wsr (oA rfl (rnf (w_ret (ret_nxt ?_))))
       refine ret_block (ret_block (rL3 _ (ret_block (ret_nxt ?_))))
       refine ret_post (.tmp rfl .nil) .nil ?_
       obtain rfl := Option.some.inj h
       exact ⟨rfl, rfl⟩
      ·
       refine wkf (w_region (oM rfl (asd_inv h fun q151 h => oV (v_sl (l := q2) rfl (fun _ _ h => h) sl42 (.inr ⟨_, rfl, rfl⟩) (.inl ⟨rfl, rfl⟩) q151.1 q151.2.1 q151.2.2) ?_)))
       exact oA rfl (rl_nil (fin_block (fin_block (hL3 _ () h _ (ji 37 0 rfl rfl rfl)))))
     ·
      refine rd_condM (j := 96) h rfl (fun g149 h => ?_) (fun g149 h => ?_)
      ·
       refine rpv 96 rfl rfl rfl g149 (rpv 96 rfl rfl rfl g149 (rpv 96 rfl rfl rfl g149 (rpv 96 rfl rfl rfl g149 (rpv 96 rfl rfl rfl g149 ?_))))
       exact rpv 96 rfl rfl rfl g149 (rd_v rfl (v_pick_t rfl g149 rfl) (hJ148 _ () h _ (ji 7 103 rfl rfl rfl)))
      ·
       refine rvt 96 rfl rfl rfl g149 (v_fi rfl GAcc.f1 fd192_1 rfl (z := (tab2 (shr8 (tab1 y99) (4 : UInt64).toNat)).hi)) (rvt 96 rfl rfl rfl g149 (v_loadI ty5 rfl) (rvt 96 rfl rfl rfl g149 (v_move rfl) (cal_inv h fun y150 hy150 h => rvt 96 rfl rfl rfl g149 (v_ix (l := q2) rfl (fun _ _ h => h) rfl sl42 hy150) ?_)))
       exact rvt 96 rfl rfl rfl g149 (v_loadI ty5 rfl) (rvt 96 rfl rfl rfl g149 (v_lss8 rfl rfl) (rd_v rfl (v_pick_f rfl g149 rfl) (hJ148 _ () h _ (ji 7 103 rfl rfl rfl))))
    ·
     refine rd_condM (j := 88) h rfl (fun g145 h => ?_) (fun g145 h => ?_)
     ·
      refine rpv 88 rfl rfl rfl g145 (rpv 88 rfl rfl rfl g145 (rpv 88 rfl rfl rfl g145 (rpv 88 rfl rfl rfl g145 (rpv 88 rfl rfl rfl g145 ?_))))
      exact rpv 88 rfl rfl rfl g145 (rd_v rfl (v_pick_t rfl g145 rfl) (hJ144 _ () h _ (ji 7 95 rfl rfl rfl)))
     ·
      refine rvt 88 rfl rfl rfl g145 (v_move rfl) (cal_inv h fun y146 hy146 h => rvt 88 rfl rfl rfl g145 (v_ix (l := q2) rfl (fun _ _ h => h) rfl sl42 hy146) (rvt 88 rfl rfl rfl g145 (v_loadI ty5 rfl) (rvt 88 rfl rfl rfl g145 (v_fi rfl GAcc.f0 fd192_0 rfl (z := (tab2 (shr8 (tab1 y99) (4 : UInt64).toNat)).lo)) ?_)))
      exact rvt 88 rfl rfl rfl g145 (v_loadI ty5 rfl) (rvt 88 rfl rfl rfl g145 (v_lss8 rfl rfl) (rd_v rfl (v_pick_f rfl g145 rfl) (hJ144 _ () h _ (ji 7 95 rfl rfl rfl))))
   ·
    refine wsr (oV (v_eql rfl rfl) (oA rfl (rnf (w_condM h rfl (fun _ h => ?_) (fun _ h => ?_)))))
    ·
     refine w_seq (w_seq (w_regionD (.v 0 (.v 1 (.v 2 (.v 3 (.v 4 (.v 5 (.v 6 (.v 7 (.v 8 (.v 9 (.v 10 (.v 11 (.v 12 (.v 13 (.v 14 (.v 15 (.v 16 (.v 17 (.v 18 (.v 19 (.v 20 (.v 21 (.v 22 (.v 23 (.v 24 (.v 25 (.v 26 (.v 27 (.v 28 (.v 29 (.v 30 .nil))))))))))))))))))))))))))))))) moOrd (by kernel_rfl) ?_))
     refine rvm rfl rfl (rd_v rfl (v_ln (l := q2) rfl (fun _ _ h => h) sl42) (rd_v rfl (v_lss rfl rfl) (rvm rfl rfl (rd_j (jb 118) je .nil h 7 rfl (fun q152 g152 h => ?_) (fun J153 h hJ153 => ?_)))))
     ·
      refine rvm rfl rfl (rd_j (jb 126) je .nil h 7 rfl (fun q156 g156 h => ?_) (fun J157 h hJ157 => ?_))
      ·
       refine rvm rfl rfl (rd_j (jb 132) je .nil h 5 rfl (fun q160 g160 h => ?_) (fun J161 h hJ161 => ?_))
       ·
        refine rvm rfl rfl (rd_j (jb 138) je .nil h 5 rfl (fun q164 g164 h => ?_) (fun J165 h hJ165 => ?_))
        ·
         refine rd_nil (fin_nxt (w_condM h rfl (fun _ h => ?_) (fun _ h => ?_)))
         ·
          refine wsr (oA rfl (rnf (w_ret (ret_nxt ?_))))
          refine ret_block (ret_block (rL3 _ (ret_block (ret_nxt ?_))))
          refine ret_post (.tmp rfl .nil) .nil ?_
          obtain rfl := Option.some.inj h
          exact ⟨rfl, rfl⟩
         ·
          refine wkf (w_region (oM rfl (asd_inv h fun q168 h => oV (v_sl (l := q2) rfl (fun _ _ h => h) sl42 (.inr ⟨_, rfl, rfl⟩) (.inl ⟨rfl, rfl⟩) q168.1 q168.2.1 q168.2.2) ?_)))
          exact oA rfl (rl_nil (fin_block (fin_block (hL3 _ () h _ (ji 43 0 rfl rfl rfl)))))
        ·
         refine rd_condM (j := 133) h rfl (fun g166 h => ?_) (fun g166 h => ?_)
         ·
          refine rpv 133 rfl rfl rfl g166 (rpv 133 rfl rfl rfl g166 (rpv 133 rfl rfl rfl g166 (rpv 133 rfl rfl rfl g166 (rd_v rfl (v_pick_t rfl g166 rfl) ?_))))
          exact hJ165 _ () h _ (ji 5 138 rfl rfl rfl)
         ·
          refine rvt 133 rfl rfl rfl g166 (v_move rfl) (cal_inv h fun y167 hy167 h => rvt 133 rfl rfl rfl g166 (v_ix (l := q2) rfl (fun _ _ h => h) rfl sl42 hy167) (rvt 133 rfl rfl rfl g166 (v_loadI ty5 rfl) (rvt 133 rfl rfl rfl g166 (v_lss8 rfl rfl) ?_)))
          exact rd_v rfl (v_pick_f rfl g166 rfl) (hJ165 _ () h _ (ji 5 138 rfl rfl rfl))
       ·
        refine rd_condM (j := 127) h rfl (fun g162 h => ?_) (fun g162 h => ?_)
        ·
         refine rpv 127 rfl rfl rfl g162 (rpv 127 rfl rfl rfl g162 (rpv 127 rfl rfl rfl g162 (rpv 127 rfl rfl rfl g162 (rd_v rfl (v_pick_t rfl g162 rfl) ?_))))
         exact hJ161 _ () h _ (ji 5 132 rfl rfl rfl)
        ·
         refine rvt 127 rfl rfl rfl g162 (v_move rfl) (cal_inv h fun y163 hy163 h => rvt 127 rfl rfl rfl g162 (v_ix (l := q2) rfl (fun _ _ h => h) rfl sl42 hy163) (rvt 127 rfl rfl rfl g162 (v_loadI ty5 rfl) (rvt 127 rfl rfl rfl g162 (v_lss8 rfl rfl) ?_)))
         exact rd_v rfl (v_pick_f rfl g162 rfl) (hJ161 _ () h _ (ji 5 132 rfl rfl rfl))
      ·
       refine rd_condM (j := 119) h rfl (fun g158 h => ?_) (fun g158 h => ?_)
       ·
        refine rpv 119 rfl rfl rfl g158 (rpv 119 rfl rfl rfl g158 (rpv 119 rfl rfl rfl g158 (rpv 119 rfl rfl rfl g158 (rpv 119 rfl rfl rfl g158 ?_))))
        exact rpv 119 rfl rfl rfl g158 (rd_v rfl (v_pick_t rfl g158 rfl) (hJ157 _ () h _ (ji 7 126 rfl rfl rfl)))
       ·
        refine rvt 119 rfl rfl rfl g158 (v_fi rfl GAcc.f1 fd192_1 rfl (z := (tab2 (shr8 (tab1 y99) (4 : UInt64).toNat)).hi)) (rvt 119 rfl rfl rfl g158 (v_loadI ty5 rfl) (rvt 119 rfl rfl rfl g158 (v_move rfl) (cal_inv h fun y159 hy159 h => rvt 119 rfl rfl rfl g158 (v_ix (l := q2) rfl (fun _ _ h => h) rfl sl42 hy159) ?_)))
        exact rvt 119 rfl rfl rfl g158 (v_loadI ty5 rfl) (rvt 119 rfl rfl rfl g158 (v_lss8 rfl rfl) (rd_v rfl (v_pick_f rfl g158 rfl) (hJ157 _ () h _ (ji 7 126 rfl rfl rfl))))
     ·
      refine rd_condM (j := 111) h rfl (fun g154 h => ?_) (fun g154 h => ?_)
      ·
       refine rpv 111 rfl rfl rfl g154 (rpv 111 rfl rfl rfl g154 (rpv 111 rfl rfl rfl g154 (rpv 111 rfl rfl rfl g154 (rpv 111 rfl rfl rfl g154 ?_))))
       exact rpv 111 rfl rfl rfl g154 (rd_v rfl (v_pick_t rfl g154 rfl) (hJ153 _ () h _ (ji 7 118 rfl rfl rfl)))
      ·
       refine rvt 111 rfl rfl rfl g154 (v_move rfl) (cal_inv h fun y155 hy155 h => rvt 111 rfl rfl rfl g154 (v_ix (l := q2) rfl (fun _ _ h => h) rfl sl42 hy155) (rvt 111 rfl rfl rfl g154 (v_loadI ty5 rfl) (rvt 111 rfl rfl rfl g154 (v_fi rfl GAcc.f0 fd192_0 rfl (z := (tab2 (shr8 (tab1 y99) (4 : UInt64).toNat)).lo)) ?_)))
       exact rvt 111 rfl rfl rfl g154 (v_loadI ty5 rfl) (rvt 111 rfl rfl rfl g154 (v_lss8 rfl rfl) (rd_v rfl (v_pick_f rfl g154 rfl) (hJ153 _ () h _ (ji 7 118 rfl rfl rfl))))
    ·
     refine wsr (oV (v_eql rfl rfl) (oA rfl (rnf (w_condM h rfl (fun _ h => ?_) (fun _ h => ?_)))))
     ·
      refine w_seq (w_seq (w_regionD (.v 0 (.v 1 (.v 2 (.v 3 (.v 4 (.v 5 (.v 6 (.v 7 (.v 8 (.v 9 (.v 10 (.v 11 (.v 12 (.v 13 (.v 14 (.v 15 (.v 16 (.v 17 (.v 18 (.v 19 (.v 20 (.v 21 (.v 22 (.v 23 (.v 24 (.v 25 (.v 26 (.v 27 (.v 28 (.v 29 (.v 30 (.v 31 (.v 32 (.v 33 (.v 34 (.v 35 (.v 36 (.v 37 (.v 38 (.v 39 (.v 40 (.v 41 (.v 42 .nil))))))))))))))))))))))))))))))))))))))))))) moOrd (by kernel_rfl) ?_))
      refine rvm rfl rfl (rd_v rfl (v_ln (l := q2) rfl (fun _ _ h => h) sl42) (rd_v rfl (v_lss rfl rfl) (rvm rfl rfl (rd_j (jb 153) je .nil h 7 rfl (fun q169 g169 h => ?_) (fun J170 h hJ170 => ?_)))))
      ·
       refine rvm rfl rfl (rd_j (jb 161) je .nil h 7 rfl (fun q173 g173 h => ?_) (fun J174 h hJ174 => ?_))
       ·
        refine rvm rfl rfl (rd_j (jb 167) je .nil h 5 rfl (fun q177 g177 h => ?_) (fun J178 h hJ178 => ?_))
        ·
         refine rvm rfl rfl (rd_j (jb 173) je .nil h 5 rfl (fun q181 g181 h => ?_) (fun J182 h hJ182 => ?_))
         ·
          refine rvm rfl rfl (rd_j (jb 179) je .nil h 5 rfl (fun q185 g185 h => ?_) (fun J186 h hJ186 => ?_))
          ·
           refine rvm rfl rfl (rd_j (jb 185) je .nil h 5 rfl (fun q189 g189 h => ?_) (fun J190 h hJ190 => ?_))
           ·
            refine rd_nil (fin_nxt (w_condM h rfl (fun _ h => ?_) (fun _ h => ?_)))
            ·
             refine wsr (oA rfl (rnf (w_ret (ret_nxt ?_))))
             refine ret_block (ret_block (rL3 _ (ret_block (ret_nxt ?_))))
             refine ret_post (.tmp rfl .nil) .nil ?_
             obtain rfl := Option.some.inj h
             exact ⟨rfl, rfl⟩
            ·
             refine wkf (w_region (oM rfl (asd_inv h fun q193 h => oV (v_sl (l := q2) rfl (fun _ _ h => h) sl42 (.inr ⟨_, rfl, rfl⟩) (.inl ⟨rfl, rfl⟩) q193.1 q193.2.1 q193.2.2) ?_)))
             exact oA rfl (rl_nil (fin_block (fin_block (hL3 _ () h _ (ji 49 0 rfl rfl rfl)))))
           ·
            refine rd_condM (j := 180) h rfl (fun g191 h => ?_) (fun g191 h => ?_)
            ·
             refine rpv 180 rfl rfl rfl g191 (rpv 180 rfl rfl rfl g191 (rpv 180 rfl rfl rfl g191 (rpv 180 rfl rfl rfl g191 (rd_v rfl (v_pick_t rfl g191 rfl) ?_))))
             exact hJ190 _ () h _ (ji 5 185 rfl rfl rfl)
            ·
             refine rvt 180 rfl rfl rfl g191 (v_move rfl) (cal_inv h fun y192 hy192 h => rvt 180 rfl rfl rfl g191 (v_ix (l := q2) rfl (fun _ _ h => h) rfl sl42 hy192) (rvt 180 rfl rfl rfl g191 (v_loadI ty5 rfl) (rvt 180 rfl rfl rfl g191 (v_lss8 rfl rfl) ?_)))
             exact rd_v rfl (v_pick_f rfl g191 rfl) (hJ190 _ () h _ (ji 5 185 rfl rfl rfl))
          ·
           refine rd_condM (j := 174) h rfl (fun g187 h => ?_) (fun g187 h => ?_)
           ·
            refine rpv 174 rfl rfl rfl g187 (rpv 174 rfl rfl rfl g187 (rpv 174 rfl rfl rfl g187 (rpv 174 rfl rfl rfl g187 (rd_v rfl (v_pick_t rfl g187 rfl) ?_))))
            exact hJ186 _ () h _ (ji 5 179 rfl rfl rfl)
           ·
            refine rvt 174 rfl rfl rfl g187 (v_move rfl) (cal_inv h fun y188 hy188 h => rvt 174 rfl rfl rfl g187 (v_ix (l := q2) rfl (fun _ _ h => h) rfl sl42 hy188) (rvt 174 rfl rfl rfl g187 (v_loadI ty5 rfl) (rvt 174 rfl rfl rfl g187 (v_lss8 rfl rfl) ?_)))
            exact rd_v rfl (v_pick_f rfl g187 rfl) (hJ186 _ () h _ (ji 5 179 rfl rfl rfl))
         ·
          refine rd_condM (j := 168) h rfl (fun g183 h => ?_) (fun g183 h => ?_)
          ·
           refine rpv 168 rfl rfl rfl g183 (rpv 168 rfl rfl rfl g183 (rpv 168 rfl rfl rfl g183 (rpv 168 rfl rfl rfl g183 (rd_v rfl (v_pick_t rfl g183 rfl) ?_))))
           exact hJ182 _ () h _ (ji 5 173 rfl rfl rfl)
          ·
           refine rvt 168 rfl rfl rfl g183 (v_move rfl) (cal_inv h fun y184 hy184 h => rvt 168 rfl rfl rfl g183 (v_ix (l := q2) rfl (fun _ _ h => h) rfl sl42 hy184) (rvt 168 rfl rfl rfl g183 (v_loadI ty5 rfl) (rvt 168 rfl rfl rfl g183 (v_lss8 rfl rfl) ?_)))
           exact rd_v rfl (v_pick_f rfl g183 rfl) (hJ182 _ () h _ (ji 5 173 rfl rfl rfl))
        ·
         refine rd_condM (j := 162) h rfl (fun g179 h => ?_) (fun g179 h => ?_)
         ·
          refine rpv 162 rfl rfl rfl g179 (rpv 162 rfl rfl rfl g179 (rpv 162 rfl rfl rfl g179 (rpv 162 rfl rfl rfl g179 (rd_v rfl (v_pick_t rfl g179 rfl) ?_))))
          exact hJ178 _ () h _ (ji 5 167 rfl rfl rfl)
         ·
          refine rvt 162 rfl rfl rfl g179 (v_move rfl) (cal_inv h fun y180 hy180 h => rvt 162 rfl rfl rfl g179 (v_ix (l := q2) rfl (fun _ _ h => h) rfl sl42 hy180) (rvt 162 rfl rfl rfl g179 (v_loadI ty5 rfl) (rvt 162 rfl rfl rfl g179 (v_lss8 rfl rfl) ?_)))
          exact rd_v rfl (v_pick_f rfl g179 rfl) (hJ178 _ () h _ (ji 5 167 rfl rfl rfl))
       ·
        refine rd_condM (j := 154) h rfl (fun g175 h => ?_) (fun g175 h => ?_)
        ·
         refine rpv 154 rfl rfl rfl g175 (rpv 154 rfl rfl rfl g175 (rpv 154 rfl rfl rfl g175 (rpv 154 rfl rfl rfl g175 (rpv 154 rfl rfl rfl g175 ?_))))
         exact rpv 154 rfl rfl rfl g175 (rd_v rfl (v_pick_t rfl g175 rfl) (hJ174 _ () h _ (ji 7 161 rfl rfl rfl)))
        ·
         refine rvt 154 rfl rfl rfl g175 (v_fi rfl GAcc.f1 fd192_1 rfl (z := (tab2 (shr8 (tab1 y99) (4 : UInt64).toNat)).hi)) (rvt 154 rfl rfl rfl g175 (v_loadI ty5 rfl) (rvt 154 rfl rfl rfl g175 (v_move rfl) (cal_inv h fun y176 hy176 h => rvt 154 rfl rfl rfl g175 (v_ix (l := q2) rfl (fun _ _ h => h) rfl sl42 hy176) ?_)))
         exact rvt 154 rfl rfl rfl g175 (v_loadI ty5 rfl) (rvt 154 rfl rfl rfl g175 (v_lss8 rfl rfl) (rd_v rfl (v_pick_f rfl g175 rfl) (hJ174 _ () h _ (ji 7 161 rfl rfl rfl))))
      ·
       refine rd_condM (j := 146) h rfl (fun g171 h => ?_) (fun g171 h => ?_)
       ·
        refine rpv 146 rfl rfl rfl g171 (rpv 146 rfl rfl rfl g171 (rpv 146 rfl rfl rfl g171 (rpv 146 rfl rfl rfl g171 (rpv 146 rfl rfl rfl g171 ?_))))
        exact rpv 146 rfl rfl rfl g171 (rd_v rfl (v_pick_t rfl g171 rfl) (hJ170 _ () h _ (ji 7 153 rfl rfl rfl)))
       ·
        refine rvt 146 rfl rfl rfl g171 (v_move rfl) (cal_inv h fun y172 hy172 h => rvt 146 rfl rfl rfl g171 (v_ix (l := q2) rfl (fun _ _ h => h) rfl sl42 hy172) (rvt 146 rfl rfl rfl g171 (v_loadI ty5 rfl) (rvt 146 rfl rfl rfl g171 (v_fi rfl GAcc.f0 fd192_0 rfl (z := (tab2 (shr8 (tab1 y99) (4 : UInt64).toNat)).lo)) ?_)))
        exact rvt 146 rfl rfl rfl g171 (v_loadI ty5 rfl) (rvt 146 rfl rfl rfl g171 (v_lss8 rfl rfl) (rd_v rfl (v_pick_f rfl g171 rfl) (hJ170 _ () h _ (ji 7 153 rfl rfl rfl))))
     ·
      refine wsr (oA rfl (rnf (w_ret (ret_block ?_))))
      refine ret_block (rL3 _ (ret_block (ret_nxt (ret_post (.tmp rfl .nil) .nil ?_))))
      obtain rfl := Option.some.inj h
      exact ⟨rfl, rfl⟩
 ·
  refine w_exit (exi_nxt (eL3 _ _ (exi_block (fin_nxt ?_))))
  refine wsr (oA rfl (rnf (w_ret (ret_post (.tmp rfl .nil) .nil ?_))))
  obtain rfl := Option.some.inj h
  exact ⟨rfl, rfl⟩


theorem r10_maker_standard_w : ∀ {a_x : GMk} {a_i : Int} {a_v : Val} {b_a_x : Nat} {v_a_x1 : Vt} {r : Val × GMk}, r10_maker_standard a_x a_i a_v = some r → Ctr Tryz.prog 175 [ptrv b_a_x (Fld.id (GMod × Vh × Int)), isv (a_i), isv (a_v)] [boxE b_a_x ((a_x.m, (Vh.mk v_a_x1 a_x.l.length), a_x.e) : (GMod × Vh × Int)), vecE v_a_x1 (a_x.l : List GTyp)] (fun R H => R = oneOf [isv (r.1)] ∧ H = [boxE b_a_x ((r.2.m, (Vh.mk v_a_x1 r.2.l.length), r.2.e)), vecE v_a_x1 (r.2.l)]) := by
 intro a_x a_i a_v b_a_x v_a_x1 r h
 unfold r10_maker_standard at h
 refine spec_intro Tryz.func175 rfl (by decide +kernel) (by rfl) fun w0 S0 hT => ?_
 refine wsr (oT (t_boxC (y := a_v) rfl (fun _ _ h => h) fun b2 => oT (t_alloc _ ze46 fun b3 => rnf (wsr ?_))))
 refine oM rfl (oV (v_nilCheck rfl) (oV (v_fa rfl pt141_0_1 fd141_1) (oT (t_loadC (R := vecv v_a_x1 (a_x.l.length)) ty24 rfl (.there (.there .here)) isvV1 (oM rfl ?_)))))
 refine asd_inv h fun q4 h => oV (v_vidx (α := GTyp) sl24 rfl rfl q4.1 q4.2) (cal_inv h fun y5 hy5 h => oT (t_vload ty87 rfl (.there (.there (.there .here))) hy5 (oT (t_alloc _ ze87 fun b6 => ?_))))
 refine oT (t_storeC (y' := (y5 : GTyp)) ty87 rfl rfl (fun _ _ h => h) .here rfl (rl_upd (upd_imm 7 .here rfl) (rnf (wsr (oV (v_fa rfl Val.f0 fd46_0) ?_)))))
 refine oT (t_loadC (R := isv (a_v.kind)) ty3 rfl (.there .here) (fun _ _ h => h) (oV (v_fi rfl GTyp.f0 fd87_0 rfl (z := y5.kind)) (oV (v_loadI ty3 rfl) (oV (v_eql rfl rfl) (oA rfl ?_)))))
 refine rnf (w_seq (wsr (oV (v_fi rfl GTyp.f0 fd87_0 rfl (z := y5.kind)) (oV (v_loadI ty3 rfl) ?_))))
 refine rnf (w_J (ι := Bool × Val) (γ := Unit) (fun q7 g7 => [(5, ptrv b2 (Fld.id Val)), (8, isv (q7.1))]) (fun q7 g7 => [boxE b2 (q7.2 : Val)]) (.cons (.there .here) .nil) h (fun q7 g7 h => ?_) (fun J8 h hJ8 => ?_))
 ·
  refine w_seq (wsr (oM rfl (oV (v_not rfl) (rnf ?_))))
  refine w_J (ι := GMk) (γ := Unit) (fun q51 g51 => []) (fun q51 g51 => [boxE b_a_x ((q51.m, (Vh.mk v_a_x1 q51.l.length), q51.e) : (GMod × Vh × Int)), vecE v_a_x1 (q51.l : List GTyp)]) (.cons (.there (.there .here)) (.cons (.there (.there .here)) .nil)) h (fun q51 g51 h => ?_) (fun J52 h hJ52 => ?_)
  ·
   refine wsr (oT (t_loadC (R := isv (q7.2)) ty46 rfl (.there (.there .here)) (fun _ _ h => h) (oT (t_storeC (y' := (q7.2 : Val)) ty46 rfl rfl (fun _ _ h => h) (.there (.there (.there .here))) rfl (rnf (w_ret ?_))))))
   refine ret_post (.cell rfl .here ty46 .nil) (.cons (.there .here) (.cons (.there .here) .nil)) ?_
   obtain rfl := Option.some.inj h
   exact ⟨rfl, rfl⟩
  ·
   refine w_condM h rfl (fun _ h => ?_) (fun _ h => ?_)
   ·
    refine w_region (oM rfl (cal_inv h fun y53 hy53 h => oT (t_call (r10_maker_fail_w hy53) hT (.same rfl (.same rfl .nil)) (.cons (.there (.there .here)) (.cons (.there (.there .here)) .nil)) (fun R H' hR => ?_))))
    obtain ⟨rfl, rfl⟩ := hR
    exact rl_nil (hJ52 _ () h _ (join_imp 2 rfl rfl mod_nil (.cons .here (.cons .here (.cons .here (.cons .here .nil))))))
   ·
    exact w_skip (hJ52 _ () h _ (join_imp 0 rfl rfl mod_nil (.cons (.there (.there .here)) (.cons (.there (.there .here)) (.cons .here (.cons .here .nil))))))
 ·
  refine w_block (w_seq (wsr (oV (v_eql rfl rfl) (oA rfl ?_))))
  refine rnf (w_J (jb 24) je .nil h (fun q9 g9 h => ?_) (fun J10 h hJ10 => ?_))
  ·
   refine w_condM h rfl (fun _ h => ?_) (fun _ h => ?_)
   ·
    exact w_skip (fin_block (hJ8 _ () h _ (join_imp 3 rfl rfl (mod_cons (j := 5) rfl (fun _ _ h => h) (mod_cons (j := 8) rfl (fun _ _ h => h) mod_nil)) (.cons (.there .here) (.cons .here (.cons .here (.cons .here .nil)))))))
   ·
    refine wsr (oV (v_eql rfl rfl) (oA rfl (rnf (w_condM h rfl (fun _ h => ?_) (fun _ h => ?_)))))
    ·
     refine w_region (oM rfl (oM rfl (rl_j (jb 36) je .nil h 6 rfl (fun q11 g11 h => ?_) (fun J12 h hJ12 => ?_))))
     ·
      exact oA rfl (rl_nil (fin_block (hJ8 _ () h _ (join_imp 9 rfl rfl (mod_cons (j := 5) rfl (fun _ _ h => h) (mod_cons (j := 8) rfl (fun _ _ h => h) mod_nil)) (.cons (.there .here) (.cons .here (.cons .here (.cons .here .nil))))))))
     ·
      refine rl_condM (j := 30) h rfl (fun g13 h => ?_) (fun g13 h => ?_)
      ·
       refine oK 30 rfl rfl rfl g13 (v_fi rfl GTyp.f2 fd87_2 rfl (z := y5.con)) (oK 30 rfl rfl rfl g13 (v_loadI ty83 rfl) (oK 30 rfl rfl rfl g13 (v_fa rfl Val.f1 fd46_1) (op_take rfl rfl (dj := 30) rfl g13 (t_loadC (R := isv (a_v.n)) ty2 rfl (.there .here) (fun _ _ h => h) (cal_inv h fun y14 hy14 h => ?_)))))
       refine op_take rfl rfl (dj := 30) rfl g13 (t_call (r08_Within_w hy14) hT (.same rfl (.same rfl .nil)) .nil (fun R H' hR => ?_))
       obtain ⟨rfl, rfl⟩ := hR
       exact oV (v_pick_t rfl g13 rfl) (hJ12 _ () h _ (join_imp 6 rfl rfl (mod_cons (j := 36) rfl (fun _ _ h => h) mod_nil) (.cons .here (.cons .here (.cons .here (.cons .here .nil))))))
      ·
       refine oP 30 rfl rfl g13 (oP 30 rfl rfl g13 (oP 30 rfl rfl g13 (oP 30 rfl rfl g13 (oP 30 rfl rfl g13 ?_))))
       exact oV (v_pick_f rfl g13 rfl) (hJ12 _ () h _ (join_imp 6 rfl rfl (mod_cons (j := 36) rfl (fun _ _ h => h) mod_nil) (.cons .here (.cons .here (.cons .here (.cons .here .nil))))))
    ·
     refine w_seq (wsr (oV (v_eql rfl rfl) (oA rfl (rnf ?_))))
     refine w_J (jb 37) je .nil h (fun q15 g15 h => ?_) (fun J16 h hJ16 => ?_)
     ·
      refine w_condM h rfl (fun _ h => ?_) (fun _ h => ?_)
      ·
       refine w_region (oM rfl (oM rfl (rl_j (jb 48) je .nil h 7 rfl (fun q17 g17 h => ?_) (fun J18 h hJ18 => ?_))))
       ·
        refine oM rfl (rl_j (jb 58) je .nil h 9 rfl (fun q21 g21 h => ?_) (fun J22 h hJ22 => ?_))
        ·
         exact oA rfl (rl_nil (fin_block (hJ8 _ () h _ (join_imp 14 rfl rfl (mod_cons (j := 5) rfl (fun _ _ h => h) (mod_cons (j := 8) rfl (fun _ _ h => h) mod_nil)) (.cons (.there .here) (.cons .here (.cons .here (.cons .here .nil))))))))
        ·
         refine rl_condM (j := 49) h rfl (fun g23 h => ?_) (fun g23 h => ?_)
         ·
          refine oK 49 rfl rfl rfl g23 (v_fi rfl GTyp.f0 fd87_0 rfl (z := y5.kind)) (oK 49 rfl rfl rfl g23 (v_loadI ty3 rfl) (oK 49 rfl rfl rfl g23 (v_eql rfl rfl) (oK 49 rfl rfl rfl g23 (v_move rfl) (rl_j (jb 57) je .nil h 4 rfl (fun q24 g24 h => ?_) (fun J25 h hJ25 => ?_)))))
          ·
           exact oV (v_pick_t rfl g23 rfl) (hJ22 _ () h _ (join_imp 6 rfl rfl (mod_cons (j := 58) rfl (fun _ _ h => h) mod_nil) (.cons .here (.cons .here (.cons .here (.cons .here .nil))))))
          ·
           refine rl_condM (j := 53) h rfl (fun g26 h => ?_) (fun g26 h => ?_)
           ·
            exact oP 53 rfl rfl g26 (oP 53 rfl rfl g26 (oP 53 rfl rfl g26 (oK 49 rfl rfl rfl g23 (v_pick_t rfl g26 rfl) (hJ25 _ () h _ (join_imp 4 rfl rfl (mod_cons (j := 57) rfl (fun _ _ h => h) mod_nil) (.cons .here (.cons .here (.cons .here (.cons .here .nil)))))))))
           ·
            refine oK 53 rfl rfl rfl g26 (v_fa rfl Val.f2 fd46_2) (op_take rfl rfl (dj := 53) rfl g26 (t_loadC (R := isv (a_v.b)) ty42 rfl (.there .here) (fun _ _ h => h) (cal_inv h fun y27 hy27 h => op_take rfl rfl (dj := 53) rfl g26 (t_call (utf8_Valid_w hy27) hT (.same rfl .nil) .nil (fun R H' hR => ?_)))))
            obtain ⟨rfl, rfl⟩ := hR
            exact oK 49 rfl rfl rfl g23 (v_pick_f rfl g26 rfl) (hJ25 _ () h _ (join_imp 4 rfl rfl (mod_cons (j := 57) rfl (fun _ _ h => h) mod_nil) (.cons .here (.cons .here (.cons .here (.cons .here .nil))))))
         ·
          refine oP 49 rfl rfl g23 (oP 49 rfl rfl g23 (oP 49 rfl rfl g23 (oP 49 rfl rfl g23 (op_passU rfl (dj := 53) rfl ?_))))
          exact op_passU rfl (dj := 53) rfl (op_passU rfl (dj := 53) rfl (oP 49 rfl rfl g23 (oV (v_pick_f rfl g23 rfl) (hJ22 _ () h _ (join_imp 9 rfl rfl (mod_cons (j := 58) rfl (fun _ _ h => h) mod_nil) (.cons .here (.cons .here (.cons .here (.cons .here .nil)))))))))
       ·
        refine rl_condM (j := 41) h rfl (fun g19 h => ?_) (fun g19 h => ?_)
        ·
         refine oK 41 rfl rfl rfl g19 (v_fi rfl GTyp.f2 fd87_2 rfl (z := y5.con)) (oK 41 rfl rfl rfl g19 (v_loadI ty83 rfl) (oK 41 rfl rfl rfl g19 (v_fa rfl Val.f2 fd46_2) (op_take rfl rfl (dj := 41) rfl g19 (t_loadC (R := isv (a_v.b)) ty42 rfl (.there .here) (fun _ _ h => h) (oK 41 rfl rfl rfl g19 (v_ln (l := a_v.b) rfl (fun _ _ h => h) sl42) ?_)))))
         refine cal_inv h fun y20 hy20 h => op_take rfl rfl (dj := 41) rfl g19 (t_call (r08_Within_w hy20) hT (.same rfl (.same rfl .nil)) .nil (fun R H' hR => ?_))
         obtain ⟨rfl, rfl⟩ := hR
         exact oV (v_pick_t rfl g19 rfl) (hJ18 _ () h _ (join_imp 7 rfl rfl (mod_cons (j := 48) rfl (fun _ _ h => h) mod_nil) (.cons .here (.cons .here (.cons .here (.cons .here .nil))))))
        ·
         refine oP 41 rfl rfl g19 (oP 41 rfl rfl g19 (oP 41 rfl rfl g19 (oP 41 rfl rfl g19 (oP 41 rfl rfl g19 ?_))))
         exact oP 41 rfl rfl g19 (oV (v_pick_f rfl g19 rfl) (hJ18 _ () h _ (join_imp 7 rfl rfl (mod_cons (j := 48) rfl (fun _ _ h => h) mod_nil) (.cons .here (.cons .here (.cons .here (.cons .here .nil)))))))
      ·
       refine wsr (oV (v_eql rfl rfl) (oA rfl (rnf (w_condM h rfl (fun _ h => ?_) (fun _ h => ?_)))))
       ·
        refine wsr (oM rfl (rnf (w_condM h rfl (fun _ h => ?_) (fun _ h => ?_))))
        ·
         refine wsr (oA rfl (rnf (wsr (oA rfl ?_))))
         refine rnf (w_block (w_lp (ι := Bool × Int × Val) (γ := Unit) (fun q28 g28 => [(5, ptrv b2 (Fld.id Val)), (8, isv (q28.1)), (9, isv (q28.2.1))]) (fun q28 g28 => [boxE b2 (q28.2.2 : Val)]) h () (mod_cons (j := 5) rfl (fun _ _ h => h) (mod_cons (j := 8) rfl (fun _ _ h => h) (mod_cons (j := 9) rfl (fun _ _ h => h) mod_nil))) (.cons (.there .here) .nil) (fun L29 q28 g28 Q50 h hL29 eL29 rL29 => w_seq (wsr ?_))))
         refine oM rfl (oV (v_fi rfl GTyp.f5 fd87_5 rfl (z := y5.root)) (oV (v_loadI ty3 rfl) (oV (v_lss rfl rfl) (oM rfl ?_))))
         refine rl_j (jb 69) je .nil h 3 rfl (fun q40 g40 h => ?_) (fun J41 h hJ41 => ?_)
         ·
          refine rnf (w_condM h rfl (fun _ h => ?_) (fun _ h => ?_))
          ·
           refine wkf (w_seq (w_J (ι := Bool × Val) (γ := Unit) (fun q43 g43 => [(5, ptrv b2 (Fld.id Val)), (8, isv (q43.1))]) (fun q43 g43 => [boxE b2 (q43.2 : Val)]) (.cons .here .nil) h (fun q43 g43 h => ?_) (fun J44 h hJ44 => ?_)))
           ·
            refine w_region (oM rfl (ck_inv h fun q49 h => oV (v_add rfl rfl q49) (oA rfl ?_)))
            exact rl_nil (hL29 _ () h _ (join_imp 14 rfl rfl (mod_cons (j := 5) rfl (fun _ _ h => h) (mod_cons (j := 8) rfl (fun _ _ h => h) (mod_cons (j := 9) rfl (fun _ _ h => h) mod_nil))) (.cons .here (.cons .here (.cons .here (.cons .here .nil))))))
           ·
            refine w_block (w_seq (w_pinN 5 .here rfl (fun o45 hn46 => w_regionD (.v 0 (.v 1 (.v 2 (.v 3 (.v 4 (.v 5 (.v 6 (.v 7 (.v 8 (.v 9 .nil)))))))))) moOrd (by kernel_rfl) ?_)))
            refine rd_v rfl (v_fi rfl GTyp.f3 fd87_3 rfl (z := y5.items)) (rd_v rfl (v_loadI ty84 rfl) (rvm rfl rfl (cal_inv h fun y47 hy47 h => rd_v rfl (v_ix (l := y5.items) rfl (fun _ _ h => h) rfl sl84 hy47) ?_)))
            refine rd_v rfl (v_fi rfl GItem.f0 fd97_0 rfl (z := y47.name)) (rd_v rfl (v_loadI ty9 rfl) (rd_v rfl (v_fp rfl Val.f2 fd46_2) (rd_v rfl (v_lpC (R := isv (q28.2.2.b)) ty42 rfl (List.Mem.head _) (fun _ _ h => h)) (rd_v rfl (v_bs (l := q28.2.2.b) Tryz.underlying42 Tryz.underlying5 Tryz.underlying9 rfl (fun _ _ h => h)) ?_))))
            refine rd_v rfl (v_eqA eq9 rfl rfl) (rd_nil (fin_unpinN 5 hn46 rfl (fin_nxt (w_condM h rfl (fun _ h => ?_) (fun _ h => ?_)))))
            ·
             refine w_region (oV (v_fi rfl GTyp.f3 fd87_3 rfl (z := y5.items)) (oV (v_loadI ty84 rfl) (oM rfl (cal_inv h fun y48 hy48 h => ?_))))
             refine oV (v_ix (l := y5.items) rfl (fun _ _ h => h) rfl sl84 hy48) (oV (v_fi rfl GItem.f1 fd97_1 rfl (z := y48.number)) (oV (v_loadI ty2 rfl) (oV (v_build (z := (Val.mk (3 : Int) y48.number ([] : (List UInt8)) ([] : (List Val)) (0 : Int) ([] : (List Raw)))) rfl bu46 ze46 (.cons Val.f0 fd46_0 rfl (fun _ _ h => h) (.cons Val.f1 fd46_1 rfl (fun _ _ h => h) .nil))) (oT (t_storeC (y' := ((Val.mk (3 : Int) y48.number ([] : (List UInt8)) ([] : (List Val)) (0 : Int) ([] : (List Raw))) : Val)) ty46 rfl rfl (fun _ _ h => h) .here rfl ?_)))))
             exact oA rfl (rl_nil (fin_block (hJ44 _ () h _ (join_imp 20 rfl rfl (mod_cons (j := 5) rfl (fun _ _ h => h) (mod_cons (j := 8) rfl (fun _ _ h => h) mod_nil)) (.cons .here (.cons .here (.cons .here (.cons .here .nil))))))))
            ·
             exact w_skip (fin_block (hJ44 _ () h _ (join_imp 12 rfl rfl (mod_cons (j := 5) rfl (fun _ _ h => h) (mod_cons (j := 8) rfl (fun _ _ h => h) mod_nil)) (.cons .here (.cons .here (.cons .here (.cons .here .nil)))))))
          ·
           refine w_exit (exi_nxt (eL29 _ _ (exi_block (fin_block ?_))))
           exact hJ8 _ () h _ (join_imp 22 rfl rfl (mod_cons (j := 5) rfl (fun _ _ h => h) (mod_cons (j := 8) rfl (fun _ _ h => h) mod_nil)) (.cons .here (.cons .here (.cons .here (.cons .here .nil)))))
         ·
          refine rl_condM (j := 66) h rfl (fun g42 h => ?_) (fun g42 h => ?_)
          ·
           exact oK 66 rfl rfl rfl g42 (v_move rfl) (oK 66 rfl rfl rfl g42 (v_not rfl) (oV (v_pick_t rfl g42 rfl) (hJ41 _ () h _ (join_imp 3 rfl rfl (mod_cons (j := 69) rfl (fun _ _ h => h) mod_nil) (.cons .here (.cons .here (.cons .here (.cons .here .nil))))))))
          ·
           exact oP 66 rfl rfl g42 (oP 66 rfl rfl g42 (oV (v_pick_f rfl g42 rfl) (hJ41 _ () h _ (join_imp 3 rfl rfl (mod_cons (j := 69) rfl (fun _ _ h => h) mod_nil) (.cons .here (.cons .here (.cons .here (.cons .here .nil))))))))
        ·
         exact w_skip (fin_block (hJ8 _ () h _ (join_imp 11 rfl rfl (mod_cons (j := 5) rfl (fun _ _ h => h) (mod_cons (j := 8) rfl (fun _ _ h => h) mod_nil)) (.cons (.there .here) (.cons .here (.cons .here (.cons .here .nil)))))))
       ·
        exact w_region (oA rfl (rl_nil (fin_block (hJ8 _ () h _ (join_imp 11 rfl rfl (mod_cons (j := 5) rfl (fun _ _ h => h) (mod_cons (j := 8) rfl (fun _ _ h => h) mod_nil)) (.cons (.there .here) (.cons .here (.cons .here (.cons .here .nil)))))))))
     ·
      refine w_condM h rfl (fun _ h => ?_) (fun _ h => ?_)
      ·
       exact w_skip (hJ16 _ () h _ (join_imp 0 rfl rfl (mod_cons (j := 37) rfl (fun _ _ h => h) mod_nil) (.cons .here (.cons .here (.cons .here (.cons .here .nil))))))
      ·
       exact w_region (oV (v_eql rfl rfl) (oA rfl (rl_nil (hJ16 _ () h _ (join_imp 2 rfl rfl (mod_cons (j := 37) rfl (fun _ _ h => h) mod_nil) (.cons .here (.cons .here (.cons .here (.cons .here .nil)))))))))
  ·
   refine w_condM h rfl (fun _ h => ?_) (fun _ h => ?_)
   ·
    exact w_skip (hJ10 _ () h _ (join_imp 0 rfl rfl (mod_cons (j := 24) rfl (fun _ _ h => h) mod_nil) (.cons .here (.cons .here (.cons .here (.cons .here .nil))))))
   ·
    exact w_region (oV (v_eql rfl rfl) (oA rfl (rl_nil (hJ10 _ () h _ (join_imp 2 rfl rfl (mod_cons (j := 24) rfl (fun _ _ h => h) mod_nil) (.cons .here (.cons .here (.cons .here (.cons .here .nil)))))))))


theorem r10_maker_soft_w : ∀ {a_x : GMk} {a_i : Int} {b_a_x : Nat} {v_a_x1 : Vt} {r : Int × GMk}, r10_maker_soft a_x a_i = some r → Ctr Tryz.prog 114 [ptrv b_a_x (Fld.id (GMod × Vh × Int)), isv (a_i)] [boxE b_a_x ((a_x.m, (Vh.mk v_a_x1 a_x.l.length), a_x.e) : (GMod × Vh × Int)), vecE v_a_x1 (a_x.l : List GTyp)] (fun R H => R = oneOf [isv (r.1)] ∧ H = [boxE b_a_x ((r.2.m, (Vh.mk v_a_x1 r.2.l.length), r.2.e)), vecE v_a_x1 (r.2.l)]) := by
 intro a_x a_i b_a_x v_a_x1 r h
 unfold r10_maker_soft at h
 refine spec_intro Tryz.func114 rfl (by decide +kernel) (by rfl) fun w0 S0 hT => ?_
 refine wsr (oA rfl (rnf (w_seq (wsr ?_))))
 refine oM rfl (oV (v_nilCheck rfl) (oV (v_fa rfl pt141_0_1 fd141_1) (oT (t_loadC (R := vecv v_a_x1 (a_x.l.length)) ty24 rfl .here isvV1 (oM rfl ?_)))))
 refine asd_inv h fun q2 h => oV (v_vidx (α := GTyp) sl24 rfl rfl q2.1 q2.2) (oV (v_fv rfl GTyp.f1 fd87_1) (cal_inv h fun y3 hy3 h => oT (t_vload ty78 rfl (.there .here) hy3 ?_)))
 refine oV (v_ln (l := y3.tags) rfl (fun _ _ h => h) sl78) (oV (v_gtr rfl rfl) (rnf (w_condM h rfl (fun _ h => ?_) (fun _ h => ?_))))
 ·
  refine wsr (oA rfl (rnf (w_ret (ret_nxt ?_))))
  refine ret_post (.tmp rfl .nil) (.cons .here (.cons .here .nil)) ?_
  obtain rfl := Option.some.inj h
  exact ⟨rfl, rfl⟩
 ·
  refine wkf (wsr (oA rfl (rnf (w_ret ?_))))
  refine ret_post (.tmp rfl .nil) (.cons .here (.cons .here .nil)) ?_
  obtain rfl := Option.some.inj h
  exact ⟨rfl, rfl⟩

end Go.Proofs.YtnnijoepfgnlfaaGreatDoor


namespace Go.Proofs.YtnnijoepfgnlfaaGreatDoor
open Go.Sy
set_option maxRecDepth 4000
theorem r09_Wrap_w : ∀ {a_tags : (List Tag)} {a_number : Int} {a_mode : Int} {r : (List Tag) × Int}, r09_Wrap a_tags a_number a_mode = some r → Ctr Tryz.prog 155 [isv (a_tags), isv (a_number), isv (a_mode)] [] (fun R H => R = oneOf [isv (r.1), isv (r.2)] ∧ H = []) := by
 intro a_tags a_number a_mode r h
 unfold r09_Wrap at h
 refine spec_intro Tryz.func155 rfl (by decide +kernel) (by rfl) fun w0 S0 hT => ?_
 refine wsr (oA rfl (oA rfl (rnf (w_seq ?_))))
 refine wsr (oM rfl (oV (v_lss rfl rfl) (oM rfl (rl_j (jb 14) je .nil h 3 rfl (fun q1 g1 h => ?_) (fun J2 h hJ2 => ?_)))))
 ·
  refine oM rfl (rl_j (jb 23) je .nil h 8 rfl (fun q4 g4 h => ?_) (fun J5 h hJ5 => ?_))
  ·
   refine rnf (w_condM h rfl (fun _ h => ?_) (fun _ h => ?_))
   ·
    refine wsr (oA rfl (oA rfl (rnf (w_ret ?_))))
    refine ret_nxt (ret_post (.as rfl (nilv_isv (α := Tag)) (.tmp rfl .nil)) .nil ?_)
    obtain rfl := Option.some.inj h
    exact ⟨rfl, rfl⟩
   ·
    refine wkf (wsr (oM rfl (oV (v_build (z := (Tag.mk (2 : Int) a_number)) rfl bu31 ze31 (.cons Tag.f0 fd31_0 rfl (fun _ _ h => h) (.cons Tag.f1 fd31_1 rfl (fun _ _ h => h) .nil))) (oT (t_buildSlice (l := ([(Tag.mk (2 : Int) a_number)] : (List Tag))) el78 (.cons rfl (fun _ _ h => h) .nil) rfl rfl ?_)))))
    refine oA rfl (rnf (w_seq (wsr (oM rfl ?_))))
    refine oV (v_eql rfl rfl) (rnf (w_condM h rfl (fun _ h => ?_) (fun _ h => ?_)))
    ·
     refine wsr (oM rfl (oM rfl (asd_inv h fun q11 h => oV (v_sl (l := a_tags) rfl (fun _ _ h => h) sl78 (.inr ⟨_, rfl, rfl⟩) (.inl ⟨rfl, rfl⟩) q11.1 q11.2.1 q11.2.2) ?_)))
     refine rl_upd (upd_tok) (asr_inv h fun q13 h => oT (t_appC (l := ([(Tag.mk (2 : Int) a_number)] : (List Tag))) (m := ((a_tags.take ((a_tags.length : Int)).toNat).drop ((1 : Int)).toNat)) ap78_78 rfl (fun _ _ h => h) rfl (fun _ _ h => h) .here q13 fun t12 => oA rfl (oA rfl ?_)))
     refine rnf (w_ret (ret_nxt (ret_post (.as rfl appv_isv (.tmp rfl .nil)) .nil ?_)))
     obtain rfl := Option.some.inj h
     exact ⟨rfl, rfl⟩
    ·
     refine wkf (wsr (oM rfl (oM rfl (rl_upd (upd_tok) ?_))))
     refine asr_inv h fun q15 h => oT (t_appC (l := ([(Tag.mk (2 : Int) a_number)] : (List Tag))) (m := a_tags) ap78_78 rfl (fun _ _ h => h) rfl (fun _ _ h => h) .here q15 fun t14 => oA rfl (oA rfl (rnf ?_)))
     refine w_ret (ret_post (.as rfl appv_isv (.tmp rfl .nil)) .nil ?_)
     obtain rfl := Option.some.inj h
     exact ⟨rfl, rfl⟩
  ·
   refine rl_condM (j := 15) h rfl (fun g6 h => ?_) (fun g6 h => ?_)
   ·
    refine oP 15 rfl rfl g6 (oP 15 rfl rfl g6 (oP 15 rfl rfl g6 (op_passU rfl (dj := 18) rfl (op_passU rfl (dj := 18) rfl ?_))))
    exact op_passU rfl (dj := 18) rfl (oP 15 rfl rfl g6 (oV (v_pick_t rfl g6 rfl) (hJ5 _ () h _ (ji 8 23 rfl rfl rfl))))
   ·
    refine oK 15 rfl rfl rfl g6 (v_move rfl) (oK 15 rfl rfl rfl g6 (v_eql rfl rfl) (oK 15 rfl rfl rfl g6 (v_move rfl) (rl_j (jb 22) je .nil h 4 rfl (fun q7 g7 h => ?_) (fun J8 h hJ8 => ?_))))
    ·
     exact oV (v_pick_f rfl g6 rfl) (hJ5 _ () h _ (ji 5 23 rfl rfl rfl))
    ·
     refine rl_condM (j := 18) h rfl (fun g9 h => ?_) (fun g9 h => ?_)
     ·
      exact oK 18 rfl rfl rfl g9 (v_move rfl) (oK 18 rfl rfl rfl g9 (v_ln (l := a_tags) rfl (fun _ _ h => h) sl78) (oK 18 rfl rfl rfl g9 (v_eql rfl rfl) (oK 15 rfl rfl rfl g6 (v_pick_t rfl g9 rfl) (hJ8 _ () h _ (ji 4 22 rfl rfl rfl)))))
     ·
      exact oP 18 rfl rfl g9 (oP 18 rfl rfl g9 (oP 18 rfl rfl g9 (oK 15 rfl rfl rfl g6 (v_pick_f rfl g9 rfl) (hJ8 _ () h _ (ji 4 22 rfl rfl rfl)))))
 ·
  refine rl_condM (j := 11) h rfl (fun g3 h => ?_) (fun g3 h => ?_)
  ·
   exact oP 11 rfl rfl g3 (oP 11 rfl rfl g3 (oV (v_pick_t rfl g3 rfl) (hJ2 _ () h _ (ji 3 14 rfl rfl rfl))))
  ·
   exact oK 11 rfl rfl rfl g3 (v_move rfl) (oK 11 rfl rfl rfl g3 (v_gtr rfl rfl) (oV (v_pick_f rfl g3 rfl) (hJ2 _ () h _ (ji 3 14 rfl rfl rfl))))


theorem r10_maker_wrap_w : ∀ {a_x : GMk} {a_i : Int} {a_number : Int} {a_mode : Int} {b_a_x : Nat} {v_a_x1 : Vt} {r : GMk}, r10_maker_wrap a_x a_i a_number a_mode = some r → Ctr Tryz.prog 115 [ptrv b_a_x (Fld.id (GMod × Vh × Int)), isv (a_i), isv (a_number), isv (a_mode)] [boxE b_a_x ((a_x.m, (Vh.mk v_a_x1 a_x.l.length), a_x.e) : (GMod × Vh × Int)), vecE v_a_x1 (a_x.l : List GTyp)] (fun R H => R = oneOf [] ∧ H = [boxE b_a_x ((r.m, (Vh.mk v_a_x1 r.l.length), r.e)), vecE v_a_x1 (r.l)]) := by
 intro a_x a_i a_number a_mode b_a_x v_a_x1 r h
 unfold r10_maker_wrap at h
 refine spec_intro Tryz.func115 rfl (by decide +kernel) (by rfl) fun w0 S0 hT => ?_
 refine w_seq (wsr (oM rfl (oV (v_nilCheck rfl) (oV (v_fa rfl pt141_0_2 fd141_2) ?_))))
 refine oT (t_loadC (R := isv (a_x.e)) ty65 rfl .here (fun _ _ h => h) (oV (v_neq rfl rfl) (rnf (w_condM h rfl (fun _ h => ?_) (fun _ h => ?_)))))
 ·
  refine w_ret (ret_nxt (ret_post .nil (.cons .here (.cons .here .nil)) ?_))
  obtain rfl := Option.some.inj h
  exact ⟨rfl, rfl⟩
 ·
  refine wkf (wsr (oM rfl (oV (v_nilCheck rfl) (oV (v_fa rfl pt141_0_1 fd141_1) ?_))))
  refine oT (t_loadC (R := vecv v_a_x1 (a_x.l.length)) ty24 rfl .here isvV1 (oM rfl (asd_inv h fun q2 h => oV (v_vidx (α := GTyp) sl24 rfl rfl q2.1 q2.2) (oV (v_fv rfl GTyp.f1 fd87_1) ?_))))
  refine cal_inv h fun y3 hy3 h => oT (t_vload ty78 rfl (.there .here) hy3 (oM rfl (oM rfl (cal_inv h fun y4 hy4 h => ?_))))
  refine oT (t_call (r09_Wrap_w hy4) hT (.same rfl (.same rfl (.same rfl .nil))) .nil (fun R H' hR => ?_))
  obtain ⟨rfl, rfl⟩ := hR
  refine oM rfl (oV (v_extract rfl rfl) (oV (v_extract rfl rfl) (oA rfl (oA rfl ?_))))
  refine rnf (w_seq (wsr (oM rfl (oV (v_neq rfl rfl) ?_))))
  refine rnf (w_condM h rfl (fun _ h => ?_) (fun _ h => ?_))
  ·
   refine wsr (oM rfl (oM rfl (cal_inv h fun y5 hy5 h => oT (t_call (r10_maker_fail_w hy5) hT (.same rfl (.same rfl .nil)) (.cons .here (.cons .here .nil)) (fun R H' hR => ?_)))))
   obtain ⟨rfl, rfl⟩ := hR
   refine rnf (w_ret (ret_nxt (ret_post .nil (.cons .here (.cons .here .nil)) ?_)))
   obtain rfl := Option.some.inj h
   exact ⟨rfl, rfl⟩
  ·
   refine wkf (w_region (oM rfl (oV (v_nilCheck rfl) (oV (v_fa rfl pt141_0_1 fd141_1) ?_))))
   refine oT (t_loadC (R := vecv v_a_x1 (a_x.l.length)) ty24 rfl .here isvV1 (oM rfl (oM rfl (asd_inv h fun q6 h => oV (v_vidx (α := GTyp) sl24 rfl rfl q6.1 q6.2) ?_))))
   refine oV (v_fv rfl GTyp.f1 fd87_1) (cal_inv h fun y7 hy7 h => oT (t_vstore ty78 rfl rfl (.there .here) hy7 (rl_upd (upd_box (y := ((a_x.m, (Vh.mk v_a_x1 (a_x.l.set a_i.toNat ({ y7 with tags := y4.1 })).length), a_x.e) : (GMod × Vh × Int))) (.there .here) (fun S => (Cv.pair Cv.id (Cv.pair (Cv.vhe (by first | rfl | simp)) Cv.id)))) ?_)))
   refine rl_nil (fin_post .nil (.cons .here (.cons .here .nil)) ?_)
   obtain rfl := Option.some.inj h
   exact ⟨rfl, rfl⟩


def r10_wild_C (f' : (List GTyp) → Int → Option (Bool)) : Prop :=
 ∀ {a_l : (List GTyp)} {a_i : Int} {v_a_l : Vt} {r : Bool}, f' a_l a_i = some r → Ctr Tryz.prog 193 [vecv v_a_l (a_l.length), isv (a_i)] [vecE v_a_l (a_l : List GTyp)] (fun R H => R = oneOf [isv (r)] ∧ H = [vecE v_a_l (a_l : List GTyp)])
theorem r10_wild_w0 {r10_wild' : (List GTyp) → Int → Option (Bool)} (h_r10_wild : r10_wild_C r10_wild') : ∀ {a_l : (List GTyp)} {a_i : Int} {v_a_l : Vt} {r : Bool}, r10_wild_F r10_wild' a_l a_i = some r → Ctr Tryz.prog 193 [vecv v_a_l (a_l.length), isv (a_i)] [vecE v_a_l (a_l : List GTyp)] (fun R H => R = oneOf [isv (r)] ∧ H = [vecE v_a_l (a_l : List GTyp)]) := by
 intro a_l a_i v_a_l r h
 unfold r10_wild_F at h
 refine spec_intro Tryz.func193 rfl (by decide +kernel) (by rfl) fun w0 S0 hT => ?_
 refine wsr (oA rfl (rnf (w_seq (wsr ?_))))
 refine oM rfl (oM rfl (asd_inv h fun q1 h => oV (v_vidx (α := GTyp) sl24 rfl rfl q1.1 q1.2) (oV (v_fv rfl GTyp.f0 fd87_0) ?_)))
 refine cal_inv h fun y2 hy2 h => oT (t_vload ty3 rfl .here hy2 (oV (v_neq rfl rfl) (oM rfl (rl_j (jb 21) je .nil h 8 rfl (fun q3 g3 h => ?_) (fun J4 h hJ4 => ?_)))))
 ·
  refine rnf (w_condM h rfl (fun _ h => ?_) (fun _ h => ?_))
  ·
   refine wsr (oA rfl (rnf (w_ret (ret_nxt ?_))))
   refine ret_post (.tmp rfl .nil) (.cons .here .nil) ?_
   obtain rfl := Option.some.inj h
   exact ⟨rfl, rfl⟩
  ·
   refine wkf (wsr (oM rfl (oM rfl (asd_inv h fun q8 h => ?_))))
   refine oV (v_vidx (α := GTyp) sl24 rfl rfl q8.1 q8.2) (oV (v_fv rfl GTyp.f6 fd87_6) (cal_inv h fun y9 hy9 h => oT (t_vload ty4 rfl .here hy9 (oA rfl ?_))))
   refine rnf (w_seq (wsr (oA rfl (rnf ?_))))
   refine w_block (w_lp (ι := Bool × Int) (γ := Unit) (fun q10 g10 => [(5, isv (q10.1)), (6, isv (q10.2))]) (fun q10 g10 => []) h () (mod_cons (j := 5) rfl (fun _ _ h => h) (mod_cons (j := 6) rfl (fun _ _ h => h) mod_nil)) .nil (fun L11 q10 g10 Q32 h hL11 eL11 rL11 => w_seq (wsr (oM rfl ?_))))
   refine oM rfl (oM rfl (asd_inv h fun q22 h => oV (v_vidx (α := GTyp) sl24 rfl rfl q22.1 q22.2) (oV (v_fv rfl GTyp.f4 fd87_4) ?_)))
   refine cal_inv h fun y23 hy23 h => oT (t_vload ty85 rfl .here hy23 (oV (v_ln (l := y23.fields) rfl (fun _ _ h => h) sl85) (oV (v_lss rfl rfl) (rnf ?_))))
   refine w_condM h rfl (fun _ h => ?_) (fun _ h => ?_)
   ·
    refine wkf (w_seq (w_block (w_region (oM rfl ?_))))
    refine oM rfl (rl_j (jb 50) je .nil h 12 rfl (fun q24 g24 h => ?_) (fun J25 h hJ25 => ?_))
    ·
     refine oA rfl (rl_nil (fin_block (fin_nxt (w_region ?_))))
     refine oM rfl (ck_inv h fun q31 h => oV (v_add rfl rfl q31) (oA rfl (rl_nil ?_)))
     exact hL11 _ () h _ (join_imp 17 rfl rfl (mod_cons (j := 5) rfl (fun _ _ h => h) (mod_cons (j := 6) rfl (fun _ _ h => h) mod_nil)) (.cons .here .nil))
    ·
     refine rl_condM (j := 38) h rfl (fun g26 h => ?_) (fun g26 h => ?_)
     ·
      refine oP 38 rfl rfl g26 (oP 38 rfl rfl g26 (oP 38 rfl rfl g26 (oP 38 rfl rfl g26 (oP 38 rfl rfl g26 ?_))))
      refine oP 38 rfl rfl g26 (oP 38 rfl rfl g26 (oP 38 rfl rfl g26 (oP 38 rfl rfl g26 (oP 38 rfl rfl g26 ?_))))
      exact oP 38 rfl rfl g26 (oV (v_pick_t rfl g26 rfl) (hJ25 _ () h _ (join_imp 12 rfl rfl (mod_cons (j := 50) rfl (fun _ _ h => h) mod_nil) (.cons .here .nil))))
     ·
      refine oK 38 rfl rfl rfl g26 (v_move rfl) (oK 38 rfl rfl rfl g26 (v_move rfl) (oK 38 rfl rfl rfl g26 (v_move rfl) (asd_inv h fun q27 h => oK 38 rfl rfl rfl g26 (v_vidx (α := GTyp) sl24 rfl rfl q27.1 q27.2) ?_)))
      refine oK 38 rfl rfl rfl g26 (v_fv rfl GTyp.f4 fd87_4) (cal_inv h fun y28 hy28 h => op_take rfl rfl (dj := 38) rfl g26 (t_vload ty85 rfl .here hy28 (oK 38 rfl rfl rfl g26 (v_move rfl) (cal_inv h fun y29 hy29 h => ?_))))
      refine oK 38 rfl rfl rfl g26 (v_ix (l := y28.fields) rfl (fun _ _ h => h) rfl sl85 hy29) (oK 38 rfl rfl rfl g26 (v_fi rfl GFld.f1 fd92_1 rfl (z := y29.ty)) (oK 38 rfl rfl rfl g26 (v_loadI ty3 rfl) (cal_inv h fun y30 hy30 h => op_take rfl rfl (dj := 38) rfl g26 (t_call (h_r10_wild hy30) hT (.cons rfl (fun _ _ h => vecvE (by first | rfl | simp) _ _ h) (.same rfl .nil)) (.cons .here .nil) (fun R H' hR => ?_)))))
      obtain ⟨rfl, rfl⟩ := hR
      exact oV (v_pick_f rfl g26 rfl) (hJ25 _ () h _ (join_imp 12 rfl rfl (mod_cons (j := 50) rfl (fun _ _ h => h) mod_nil) (.cons .here .nil)))
   ·
    refine w_exit (exi_nxt (eL11 _ _ (exi_block (fin_nxt ?_))))
    refine wsr (oM rfl (oA rfl (rnf (w_ret ?_))))
    refine ret_post (.tmp rfl .nil) (.cons .here .nil) ?_
    obtain rfl := Option.some.inj h
    exact ⟨rfl, rfl⟩
 ·
  refine rl_condM (j := 13) h rfl (fun g5 h => ?_) (fun g5 h => ?_)
  ·
   refine oP 13 rfl rfl g5 (oP 13 rfl rfl g5 (oP 13 rfl rfl g5 (oP 13 rfl rfl g5 (oP 13 rfl rfl g5 ?_))))
   exact oP 13 rfl rfl g5 (oP 13 rfl rfl g5 (oV (v_pick_t rfl g5 rfl) (hJ4 _ () h _ (join_imp 8 rfl rfl (mod_cons (j := 21) rfl (fun _ _ h => h) mod_nil) (.cons .here .nil)))))
  ·
   refine oK 13 rfl rfl rfl g5 (v_move rfl) (oK 13 rfl rfl rfl g5 (v_move rfl) (asd_inv h fun q6 h => oK 13 rfl rfl rfl g5 (v_vidx (α := GTyp) sl24 rfl rfl q6.1 q6.2) (oK 13 rfl rfl rfl g5 (v_fv rfl GTyp.f1 fd87_1) ?_)))
   refine cal_inv h fun y7 hy7 h => op_take rfl rfl (dj := 13) rfl g5 (t_vload ty78 rfl .here hy7 (oK 13 rfl rfl rfl g5 (v_ln (l := y7.tags) rfl (fun _ _ h => h) sl78) (oK 13 rfl rfl rfl g5 (v_gtr rfl rfl) (oV (v_pick_f rfl g5 rfl) ?_))))
   exact hJ4 _ () h _ (join_imp 8 rfl rfl (mod_cons (j := 21) rfl (fun _ _ h => h) mod_nil) (.cons .here .nil))

theorem r10_wild_grp_w : ∀ n, r10_wild_C (r10_wild n)
 | 0 => fun h => (by cases h)
 | n + 1 => r10_wild_w0 (r10_wild_grp_w n)
theorem r10_wild_w (n : Nat) : r10_wild_C (r10_wild n) := (r10_wild_grp_w n)

def r10_begins_C (f' : (List GTyp) → Int → Option ((List Tag))) : Prop :=
 ∀ {a_l : (List GTyp)} {a_i : Int} {v_a_l : Vt} {r : (List Tag)}, f' a_l a_i = some r → Ctr Tryz.prog 79 [vecv v_a_l (a_l.length), isv (a_i)] [vecE v_a_l (a_l : List GTyp)] (fun R H => R = oneOf [isv (r)] ∧ H = [vecE v_a_l (a_l : List GTyp)])
theorem r10_begins_w0 {r10_begins' : (List GTyp) → Int → Option ((List Tag))} (h_r10_begins : r10_begins_C r10_begins') : ∀ {a_l : (List GTyp)} {a_i : Int} {v_a_l : Vt} {r : (List Tag)}, r10_begins_F r10_begins' a_l a_i = some r → Ctr Tryz.prog 79 [vecv v_a_l (a_l.length), isv (a_i)] [vecE v_a_l (a_l : List GTyp)] (fun R H => R = oneOf [isv (r)] ∧ H = [vecE v_a_l (a_l : List GTyp)]) := by
 intro a_l a_i v_a_l r h
 unfold r10_begins_F at h
 refine spec_intro Tryz.func79 rfl (by decide +kernel) (by rfl) fun w0 S0 hT => ?_
 refine wsr (oA rfl (rnf (w_seq (wsr ?_))))
 refine oM rfl (oM rfl (asd_inv h fun q1 h => oV (v_vidx (α := GTyp) sl24 rfl rfl q1.1 q1.2) (oV (v_fv rfl GTyp.f1 fd87_1) ?_)))
 refine cal_inv h fun y2 hy2 h => oT (t_vload ty78 rfl .here hy2 (oV (v_ln (l := y2.tags) rfl (fun _ _ h => h) sl78) (oV (v_gtr rfl rfl) (rnf ?_))))
 refine w_condM h rfl (fun _ h => ?_) (fun _ h => ?_)
 ·
  refine wsr (oM rfl (oM rfl (asd_inv h fun q3 h => oV (v_vidx (α := GTyp) sl24 rfl rfl q3.1 q3.2) ?_)))
  refine oV (v_fv rfl GTyp.f1 fd87_1) (cal_inv h fun y4 hy4 h => oT (t_vload ty78 rfl .here hy4 (asd_inv h fun q5 h => oV (v_sl (l := y4.tags) rfl (fun _ _ h => h) sl78 (.inl ⟨rfl, rfl⟩) (.inr ⟨_, rfl, rfl⟩) q5.1 q5.2.1 q5.2.2) ?_)))
  refine oA rfl (rnf (w_ret (ret_nxt (ret_post (.tmp rfl .nil) (.cons .here .nil) ?_))))
  obtain rfl := Option.some.inj h
  exact ⟨rfl, rfl⟩
 ·
  refine wkf (wsr (oA rfl (rnf (w_seq ?_))))
  refine wsr (oA rfl (rnf (w_block (w_upd (upd_tok) ?_))))
  refine w_lp (ι := (List Tag) × Int) (γ := Tok) (fun q6 g6 => [(5, appv g6 (q6.1)), (6, isv (q6.2))]) (fun q6 g6 => [tokE g6]) h (none) (mod_cons (j := 5) rfl nilv_appv (mod_cons (j := 6) rfl (fun _ _ h => h) mod_nil)) (.cons .here .nil) (fun L7 q6 g6 Q27 h hL7 eL7 rL7 => w_seq (wsr (oM rfl (oM rfl ?_))))
  refine oM rfl (asd_inv h fun q17 h => oV (v_vidx (α := GTyp) sl24 rfl rfl q17.1 q17.2) (oV (v_fv rfl GTyp.f4 fd87_4) (cal_inv h fun y18 hy18 h => ?_)))
  refine oT (t_vload ty85 rfl (.there .here) hy18 (oV (v_ln (l := y18.fields) rfl (fun _ _ h => h) sl85) (oV (v_lss rfl rfl) (rnf (w_condM h rfl (fun _ h => ?_) (fun _ h => ?_))))))
  ·
   refine wkf (w_seq (w_block (w_region (oM rfl ?_))))
   refine oM rfl (oM rfl (oM rfl (asd_inv h fun q19 h => oV (v_vidx (α := GTyp) sl24 rfl rfl q19.1 q19.2) ?_)))
   refine oV (v_fv rfl GTyp.f4 fd87_4) (cal_inv h fun y20 hy20 h => oT (t_vload ty85 rfl (.there .here) hy20 (oM rfl (cal_inv h fun y21 hy21 h => ?_))))
   refine oV (v_ix (l := y20.fields) rfl (fun _ _ h => h) rfl sl85 hy21) (oV (v_fi rfl GFld.f1 fd92_1 rfl (z := y21.ty)) (oV (v_loadI ty3 rfl) (cal_inv h fun y22 hy22 h => oT (t_call (h_r10_begins hy22) hT (.cons rfl (fun _ _ h => vecvE (by first | rfl | simp) _ _ h) (.same rfl .nil)) (.cons (.there .here) .nil) (fun R H' hR => ?_)))))
   obtain ⟨rfl, rfl⟩ := hR
   refine asr_inv h fun q24 h => oT (t_appC (l := q6.1) (m := y22) ap78_78 rfl (fun _ _ h => h) rfl (fun _ _ h => h) (.there .here) q24 fun t23 => oA rfl (rl_nil (fin_block ?_)))
   refine fin_nxt (w_region (oM rfl (ck_inv h fun q25 h => oV (v_add rfl rfl q25) ?_)))
   exact oA rfl (rl_nil (hL7 _ (t23) h _ (join_imp 27 rfl rfl (mod_cons (j := 5) rfl (fun _ _ h => h) (mod_cons (j := 6) rfl (fun _ _ h => h) mod_nil)) (.cons .here (.cons .here .nil)))))
  ·
   refine w_exit (exi_nxt (eL7 _ _ (exi_block (fin_nxt ?_))))
   refine wsr (oM rfl (oA rfl (rnf (w_ret ?_))))
   refine ret_post (.as rfl appv_isv .nil) (.cons (.there .here) .nil) ?_
   obtain rfl := Option.some.inj h
   exact ⟨rfl, rfl⟩

theorem r10_begins_grp_w : ∀ n, r10_begins_C (r10_begins n)
 | 0 => fun h => (by cases h)
 | n + 1 => r10_begins_w0 (r10_begins_grp_w n)
theorem r10_begins_w (n : Nat) : r10_begins_C (r10_begins n) := (r10_begins_grp_w n)

theorem h_In_api_Tag_w : ∀ {a_l : (List Tag)} {a_x : Tag} {r : Bool}, h_In_api_Tag a_l a_x = some r → Ctr Tryz.prog 166 [isv (a_l), isv (a_x)] [] (fun R H => R = oneOf [isv (r)] ∧ H = []) := by
 intro a_l a_x r h
 unfold h_In_api_Tag at h
 refine spec_intro Tryz.func166 rfl (by decide +kernel) (by rfl) fun w0 S0 hT => ?_
 refine wsr (oT (t_boxIC (y := a_x) rfl (fun _ _ h => h) (oA rfl (rnf (w_seq ?_)))))
 refine wsr (oA rfl (rnf (w_block (w_lp (ι := Int) (γ := Unit) (fun q1 g1 => [(5, isv (q1))]) (fun q1 g1 => []) h () (mod_cons (j := 5) rfl (fun _ _ h => h) mod_nil) .nil (fun L2 q1 g1 Q7 h hL2 eL2 rL2 => ?_)))))
 refine w_seq (wsr (oM rfl (oM rfl (oV (v_ln (l := a_l) rfl (fun _ _ h => h) sl78) ?_))))
 refine oV (v_lss rfl rfl) (rnf (w_condM h rfl (fun _ h => ?_) (fun _ h => ?_)))
 ·
  refine wkf (w_seq (w_block (w_seq (w_regionD (.v 0 (.v 1 (.v 2 (.v 3 (.v 4 (.v 5 .nil)))))) moOrd (by kernel_rfl) ?_))))
  refine rvm rfl rfl (rvm rfl rfl (cal_inv h fun y5 hy5 h => rd_v rfl (v_ix (l := a_l) rfl (fun _ _ h => h) rfl sl78 hy5) (rd_v rfl (v_loadI ty31 rfl) ?_)))
  refine rd_v rfl (v_loadI ty31 rfl) (rd_v rfl (v_eqA eq31 rfl rfl) (rd_nil (fin_nxt (w_condM h rfl (fun _ h => ?_) (fun _ h => ?_)))))
  ·
   refine wsr (oA rfl (rnf (w_ret (ret_block ?_))))
   refine ret_nxt (rL2 _ (ret_block (ret_nxt (ret_post (.tmp rfl .nil) .nil ?_))))
   obtain rfl := Option.some.inj h
   exact ⟨rfl, rfl⟩
  ·
   refine w_skip (fin_block (fin_nxt (w_region (oM rfl ?_))))
   exact ck_inv h fun q6 h => oV (v_add rfl rfl q6) (oA rfl (rl_nil (hL2 _ () h _ (ji 14 5 rfl rfl rfl))))
 ·
  refine w_exit (exi_nxt (eL2 _ _ (exi_block (fin_nxt ?_))))
  refine wsr (oA rfl (rnf (w_ret (ret_post (.tmp rfl .nil) .nil ?_))))
  obtain rfl := Option.some.inj h
  exact ⟨rfl, rfl⟩


theorem r09_Distinct_w : ∀ {a_sets : (List (List Tag))} {r : Bool}, r09_Distinct a_sets = some r → Ctr Tryz.prog 194 [isv (a_sets)] [] (fun R H => R = oneOf [isv (r)] ∧ H = []) := by
 intro a_sets r h
 unfold r09_Distinct at h
 refine spec_intro Tryz.func194 rfl (by decide +kernel) (by rfl) fun w0 S0 hT => ?_
 refine wsr (oA rfl (rnf (wsr (oA rfl ?_))))
 refine rnf (w_seq (wsr (oA rfl (rnf ?_))))
 refine w_block (w_upd (upd_tok) (w_lp (ι := (List Tag) × Int) (γ := Tok) (fun q1 g1 => [(3, appv g1 (q1.1)), (4, isv (q1.2))]) (fun q1 g1 => [tokE g1]) h (none) (mod_cons (j := 3) rfl nilv_appv (mod_cons (j := 4) rfl (fun _ _ h => h) mod_nil)) (.cons .here .nil) (fun L2 q1 g1 Q55 h hL2 eL2 rL2 => w_seq (wsr ?_))))
 refine oM rfl (oM rfl (oV (v_ln (l := a_sets) rfl (fun _ _ h => h) sl242) (oV (v_lss rfl rfl) (rnf ?_))))
 refine w_condM h rfl (fun _ h => ?_) (fun _ h => ?_)
 ·
  refine wkf (w_seq (w_block (wsr (oA rfl ?_))))
  refine rnf (w_block (w_lp (ι := (List Tag) × Int) (γ := Tok) (fun q29 g29 => [(3, appv g29 (q29.1)), (5, isv (q29.2))]) (fun q29 g29 => [tokE g29]) h (g1) (mod_cons (j := 3) rfl (fun _ _ h => h) (mod_cons (j := 5) rfl (fun _ _ h => h) mod_nil)) (.cons .here .nil) (fun L30 q29 g29 Q53 h hL30 eL30 rL30 => w_seq (wsr ?_))))
  refine oM rfl (oM rfl (oM rfl (cal_inv h fun y42 hy42 h => oV (v_ix (l := a_sets) rfl (fun _ _ h => h) rfl sl242 hy42) ?_)))
  refine oV (v_loadI ty78 rfl) (oV (v_ln (l := y42) rfl (fun _ _ h => h) sl78) (oV (v_lss rfl rfl) (rnf (w_condM h rfl (fun _ h => ?_) (fun _ h => ?_)))))
  ·
   refine wkf (w_seq (w_block (w_seq (wsr ?_))))
   refine oM rfl (oM rfl (oM rfl (cal_inv h fun y43 hy43 h => oV (v_ix (l := a_sets) rfl (fun _ _ h => h) rfl sl242 hy43) ?_)))
   refine oV (v_loadI ty78 rfl) (oM rfl (cal_inv h fun y44 hy44 h => oV (v_ix (l := y43) rfl (fun _ _ h => h) rfl sl78 hy44) (oV (v_loadI ty31 rfl) ?_)))
   refine cal_inv h fun y45 hy45 h => oT (t_call (h_In_api_Tag_w hy45) hT (.cons rfl appv_isv (.same rfl .nil)) .nil (fun R H' hR => ?_))
   obtain ⟨rfl, rfl⟩ := hR
   refine rnf (w_condM h rfl (fun _ h => ?_) (fun _ h => ?_))
   ·
    refine wsr (oA rfl (rnf (w_ret (ret_nxt ?_))))
    refine ret_block (ret_nxt (rL30 _ (ret_block (ret_block ?_))))
    refine ret_nxt (rL2 _ (ret_block (ret_nxt (ret_post (.tmp rfl .nil) .nil ?_))))
    obtain rfl := Option.some.inj h
    exact ⟨rfl, rfl⟩
   ·
    refine wkf (w_region (oM rfl (oM rfl (oM rfl ?_))))
    refine cal_inv h fun y46 hy46 h => oV (v_ix (l := a_sets) rfl (fun _ _ h => h) rfl sl242 hy46) (oV (v_loadI ty78 rfl) (oM rfl (cal_inv h fun y47 hy47 h => ?_)))
    refine oV (v_ix (l := y46) rfl (fun _ _ h => h) rfl sl78 hy47) (oV (v_loadI ty31 rfl) (oT (t_buildSlice (l := ([y47] : (List Tag))) el78 (.cons rfl (fun _ _ h => h) .nil) rfl rfl (asr_inv h fun q50 h => oT (t_appC (l := q29.1) (m := ([y47] : (List Tag))) ap78_78 rfl (fun _ _ h => h) rfl appv_isv .here q50 fun t49 => ?_)))))
    refine oA rfl (rl_nil (fin_block (fin_nxt (w_region ?_))))
    refine oM rfl (ck_inv h fun q51 h => oV (v_add rfl rfl q51) (oA rfl (rl_nil ?_)))
    exact hL30 _ (t49) h _ (join_imp 32 rfl rfl (mod_cons (j := 3) rfl (fun _ _ h => h) (mod_cons (j := 5) rfl (fun _ _ h => h) mod_nil)) (.cons .here .nil))
  ·
   refine w_exit (exi_nxt (eL30 _ _ (exi_block (fin_block ?_))))
   refine fin_nxt (w_region (oM rfl (ck_inv h fun q52 h => oV (v_add rfl rfl q52) ?_)))
   exact oA rfl (rl_nil (hL2 _ (g29) h _ (join_imp 19 rfl rfl (mod_cons (j := 3) rfl (fun _ _ h => h) (mod_cons (j := 4) rfl (fun _ _ h => h) mod_nil)) (.cons .here .nil))))
 ·
  refine w_exit (exi_nxt (eL2 _ _ (exi_block (fin_nxt ?_))))
  refine wsr (oA rfl (rnf (w_ret (ret_post (.tmp rfl .nil) .nil ?_))))
  obtain rfl := Option.some.inj h
  exact ⟨rfl, rfl⟩


theorem r10_maker_told_w : ∀ {a_x : GMk} {a_l : (List GFld)} {a_open_ : Bool} {b_a_x : Nat} {v_a_x1 : Vt} {r : Bool × GMk}, r10_maker_told a_x a_l a_open_ = some r → Ctr Tryz.prog 186 [ptrv b_a_x (Fld.id (GMod × Vh × Int)), isv (a_l), isv (a_open_)] [boxE b_a_x ((a_x.m, (Vh.mk v_a_x1 a_x.l.length), a_x.e) : (GMod × Vh × Int)), vecE v_a_x1 (a_x.l : List GTyp)] (fun R H => R = oneOf [isv (r.1)] ∧ H = [boxE b_a_x ((r.2.m, (Vh.mk v_a_x1 r.2.l.length), r.2.e)), vecE v_a_x1 (r.2.l)]) := by
 intro a_x a_l a_open_ b_a_x v_a_x1 r h
 unfold r10_maker_told at h
 refine spec_intro Tryz.func186 rfl (by decide +kernel) (by rfl) fun w0 S0 hT => ?_
 refine wsr (oA rfl (rnf (wsr (oA rfl ?_))))
 refine rnf (w_seq (wsr (oA rfl (rnf ?_))))
 refine w_block (w_upd (upd_tok) (w_lp (ι := (List (List Tag)) × Int) (γ := Tok) (fun q2 g2 => [(0, ptrv b_a_x (Fld.id (GMod × Vh × Int))), (7, appv g2 (q2.1)), (8, isv (q2.2))]) (fun q2 g2 => [tokE g2]) h (none) (mod_cons (j := 0) rfl (fun _ _ h => h) (mod_cons (j := 7) rfl nilv_appv (mod_cons (j := 8) rfl (fun _ _ h => h) mod_nil))) (.cons .here .nil) (fun L3 q2 g2 Q43 h hL3 eL3 rL3 => w_seq (wsr ?_))))
 refine oM rfl (oM rfl (oV (v_ln (l := a_l) rfl (fun _ _ h => h) sl85) (oV (v_lss rfl rfl) (rnf ?_))))
 refine w_condM h rfl (fun _ h => ?_) (fun _ h => ?_)
 ·
  refine wkf (w_seq (w_block (w_seq (w_seq ?_))))
  refine w_pinN 0 (.there .here) rfl (fun o23 hn24 => w_regionD (.v 0 (.v 1 (.v 2 (.v 3 (.v 4 (.v 5 (.v 6 (.v 7 (.v 8 (.t 9 (.v 10 (.v 11 (.v 12 (.v 13 (.v 14 (.v 15 (.v 16 (.v 17 .nil)))))))))))))))))) moOrd (by kernel_rfl) ?_)
  refine rvm rfl rfl (rd_v rfl (v_nilCheckP rfl) (rd_v rfl (v_fp rfl pt141_0_1 fd141_1) (rd_v rfl (v_lpC (R := vecv v_a_x1 (a_x.l.length)) ty24 rfl (List.Mem.head _) isvV1) (rvm rfl rfl ?_))))
  refine rvm rfl rfl (cal_inv h fun y25 hy25 h => rd_v rfl (v_ix (l := a_l) rfl (fun _ _ h => h) rfl sl85 hy25) (rd_v rfl (v_fi rfl GFld.f1 fd92_1 rfl (z := y25.ty)) (rd_v rfl (v_loadI ty3 rfl) ?_)))
  refine cal_inv h fun y26 hy26 h => rd_t rfl rfl (t_call (r10_wild_w fuel hy26) hT (.cons rfl (fun _ _ h => vecvE (by first | rfl | simp) _ _ h) (.same rfl .nil)) (.cons (.there .here) .nil) (fun R H' hR => ?_))
  obtain ⟨rfl, rfl⟩ := hR
  refine rvm rfl rfl (rd_j (jb 32) je .nil h 7 rfl (fun q27 g27 h => ?_) (fun J28 h hJ28 => ?_))
  ·
   refine rd_nil (fin_unpinN 0 hn24 rfl (fin_nxt (w_condM h rfl (fun _ h => ?_) (fun _ h => ?_))))
   ·
    refine wsr (oA rfl (rnf (w_ret (ret_nxt ?_))))
    refine ret_block (ret_nxt (rL3 _ (ret_block (ret_nxt ?_))))
    refine ret_post (.tmp rfl .nil) (.cons .here (.cons .here .nil)) ?_
    obtain rfl := Option.some.inj h
    exact ⟨rfl, rfl⟩
   ·
    refine wkf (w_pinN 0 .here rfl (fun o33 hn34 => w_regionD (.v 0 (.v 1 (.v 2 (.v 3 (.v 4 (.v 5 (.v 6 (.v 7 (.v 8 (.v 9 (.t 10 (.t 11 (.t 12 (.v 13 .nil)))))))))))))) moOrd (by kernel_rfl) ?_))
    refine rvm rfl rfl (rvm rfl rfl (rd_v rfl (v_nilCheckP rfl) (rd_v rfl (v_fp rfl pt141_0_1 fd141_1) (rd_v rfl (v_lpC (R := vecv v_a_x1 (a_x.l.length)) ty24 rfl (List.Mem.head _) isvV1) ?_))))
    refine rvm rfl rfl (rvm rfl rfl (cal_inv h fun y35 hy35 h => rd_v rfl (v_ix (l := a_l) rfl (fun _ _ h => h) rfl sl85 hy35) (rd_v rfl (v_fi rfl GFld.f1 fd92_1 rfl (z := y35.ty)) ?_)))
    refine rd_v rfl (v_loadI ty3 rfl) (cal_inv h fun y36 hy36 h => rd_t rfl rfl (t_call (r10_begins_w fuel hy36) hT (.cons rfl (fun _ _ h => vecvE (by first | rfl | simp) _ _ h) (.same rfl .nil)) (.cons .here .nil) (fun R H' hR => ?_)))
    obtain ⟨rfl, rfl⟩ := hR
    refine rd_t rfl rfl (t_buildSlice (l := ([y36] : (List (List Tag)))) el242 (.cons rfl (fun _ _ h => h) .nil) rfl rfl (asr_inv h fun q39 h => rd_t rfl rfl (t_appC (l := q2.1) (m := ([y36] : (List (List Tag)))) ap242_242 rfl (fun _ _ h => h) rfl appv_isv (.there .here) q39 fun t38 => rd_v rfl (v_assign rfl) (rd_nil ?_))))
    refine fin_unpinN 0 hn34 rfl (fin_block (fin_nxt (w_region (oM rfl ?_))))
    exact ck_inv h fun q40 h => oV (v_add rfl rfl q40) (oA rfl (rl_nil (hL3 _ (t38) h _ (join_imp 40 rfl rfl (mod_cons (j := 0) rfl (fun _ _ h => h) (mod_cons (j := 7) rfl (fun _ _ h => h) (mod_cons (j := 8) rfl (fun _ _ h => h) mod_nil))) (.cons (.there .here) (.cons .here (.cons .here .nil)))))))
  ·
   refine rd_condM (j := 25) h rfl (fun g29 h => ?_) (fun g29 h => ?_)
   ·
    refine rvt 25 rfl rfl rfl g29 (v_move rfl) (rvt 25 rfl rfl rfl g29 (v_move rfl) (rd_j (jb 31) je .nil h 4 rfl (fun q30 g30 h => ?_) (fun J31 h hJ31 => ?_)))
    ·
     exact rd_v rfl (v_pick_t rfl g29 rfl) (hJ28 _ () h _ (join_imp 4 rfl rfl (mod_cons (j := 32) rfl (fun _ _ h => h) mod_nil) (.cons .here (.cons .here .nil))))
    ·
     refine rd_condM (j := 27) h rfl (fun g32 h => ?_) (fun g32 h => ?_)
     ·
      exact rpv 27 rfl rfl rfl g32 (rpv 27 rfl rfl rfl g32 (rpv 27 rfl rfl rfl g32 (rvt 25 rfl rfl rfl g29 (v_pick_t rfl g32 rfl) (hJ31 _ () h _ (join_imp 4 rfl rfl (mod_cons (j := 31) rfl (fun _ _ h => h) mod_nil) (.cons .here (.cons .here .nil)))))))
     ·
      exact rvt 27 rfl rfl rfl g32 (v_move rfl) (rvt 27 rfl rfl rfl g32 (v_ln (l := a_l) rfl (fun _ _ h => h) sl85) (rvt 27 rfl rfl rfl g32 (v_gtr rfl rfl) (rvt 25 rfl rfl rfl g29 (v_pick_f rfl g32 rfl) (hJ31 _ () h _ (join_imp 4 rfl rfl (mod_cons (j := 31) rfl (fun _ _ h => h) mod_nil) (.cons .here (.cons .here .nil)))))))
   ·
    refine rpv 25 rfl rfl rfl g29 (rpv 25 rfl rfl rfl g29 (rd_passUV rfl rfl (dj := 27) rfl (rd_passUV rfl rfl (dj := 27) rfl (rd_passUV rfl rfl (dj := 27) rfl ?_))))
    exact rpv 25 rfl rfl rfl g29 (rd_v rfl (v_pick_f rfl g29 rfl) (hJ28 _ () h _ (join_imp 7 rfl rfl (mod_cons (j := 32) rfl (fun _ _ h => h) mod_nil) (.cons .here (.cons .here .nil)))))
 ·
  refine w_exit (exi_nxt (eL3 _ _ (exi_block (fin_nxt ?_))))
  refine wsr (oM rfl (cal_inv h fun y41 hy41 h => oT (t_call (r09_Distinct_w hy41) hT (.cons rfl appv_isv .nil) .nil (fun R H' hR => ?_))))
  obtain ⟨rfl, rfl⟩ := hR
  refine oA rfl (rnf (w_ret (ret_post (.tmp rfl .nil) (.cons (.there .here) (.cons (.there .here) .nil)) ?_)))
  obtain rfl := Option.some.inj h
  exact ⟨rfl, rfl⟩


theorem r10_Loose_w : ∀ {a_t : GTyp} {r : (List Bool)}, r10_Loose a_t = some r → Ctr Tryz.prog 183 [isv (a_t)] [] (fun R H => R = oneOf [isv (r)] ∧ H = []) := by
 intro a_t r h
 unfold r10_Loose at h
 refine spec_intro Tryz.func183 rfl (by decide +kernel) (by rfl) fun w0 S0 hT => ?_
 refine wsr (oT (t_boxIC (y := a_t) rfl (fun _ _ h => h) (oA rfl (rnf (wsr ?_)))))
 refine oA rfl (rnf (w_seq (wsr (oA rfl ?_))))
 refine rnf (w_block (w_upd (upd_tok) (w_lp (ι := (List Bool) × Int) (γ := Tok) (fun q1 g1 => [(3, appv g1 (q1.1)), (4, isv (q1.2))]) (fun q1 g1 => [tokE g1]) h (none) (mod_cons (j := 3) rfl nilv_appv (mod_cons (j := 4) rfl (fun _ _ h => h) mod_nil)) (.cons .here .nil) (fun L2 q1 g1 Q28 h hL2 eL2 rL2 => w_seq ?_))))
 refine wsr (oM rfl (oV (v_fi rfl GTyp.f4 fd87_4 rfl (z := a_t.fields)) (oV (v_loadI ty85 rfl) (oV (v_ln (l := a_t.fields) rfl (fun _ _ h => h) sl85) ?_))))
 refine oV (v_lss rfl rfl) (rnf (w_condM h rfl (fun _ h => ?_) (fun _ h => ?_)))
 ·
  refine wkf (w_seq (w_block (w_region (oM rfl ?_))))
  refine oV (v_fi rfl GTyp.f4 fd87_4 rfl (z := a_t.fields)) (oV (v_loadI ty85 rfl) (oM rfl (cal_inv h fun y15 hy15 h => oV (v_ix (l := a_t.fields) rfl (fun _ _ h => h) rfl sl85 hy15) ?_)))
  refine oV (v_fi rfl GFld.f2 fd92_2 rfl (z := y15.optional)) (oV (v_loadI ty4 rfl) (oM rfl (rl_j (jb 26) je .nil h 7 rfl (fun q16 g16 h => ?_) (fun J17 h hJ17 => ?_))))
  ·
   refine oM rfl (rl_j (jb 32) je .nil h 5 rfl (fun q20 g20 h => ?_) (fun J21 h hJ21 => ?_))
   ·
    refine oT (t_buildSlice (l := ([q20] : (List Bool))) el49 (.cons rfl (fun _ _ h => h) .nil) rfl rfl (asr_inv h fun q25 h => oT (t_appC (l := q1.1) (m := ([q20] : (List Bool))) ap49_49 rfl (fun _ _ h => h) rfl appv_isv .here q25 fun t24 => oA rfl (rl_nil ?_))))
    refine fin_block (fin_nxt (w_region (oM rfl (ck_inv h fun q26 h => ?_))))
    exact oV (v_add rfl rfl q26) (oA rfl (rl_nil (hL2 _ (t24) h _ (join_imp 24 rfl rfl (mod_cons (j := 3) rfl (fun _ _ h => h) (mod_cons (j := 4) rfl (fun _ _ h => h) mod_nil)) (.cons .here .nil)))))
   ·
    refine rl_condM (j := 27) h rfl (fun g22 h => ?_) (fun g22 h => ?_)
    ·
     refine oP 27 rfl rfl g22 (oP 27 rfl rfl g22 (oP 27 rfl rfl g22 (oP 27 rfl rfl g22 (oV (v_pick_t rfl g22 rfl) ?_))))
     exact hJ21 _ () h _ (join_imp 5 rfl rfl (mod_cons (j := 32) rfl (fun _ _ h => h) mod_nil) (.cons .here .nil))
    ·
     refine oK 27 rfl rfl rfl g22 (v_move rfl) (oK 27 rfl rfl rfl g22 (v_fi rfl GTyp.f5 fd87_5 rfl (z := a_t.root)) (oK 27 rfl rfl rfl g22 (v_loadI ty3 rfl) (oK 27 rfl rfl rfl g22 (v_geq rfl rfl) (oV (v_pick_f rfl g22 rfl) ?_))))
     exact hJ21 _ () h _ (join_imp 5 rfl rfl (mod_cons (j := 32) rfl (fun _ _ h => h) mod_nil) (.cons .here .nil))
  ·
   refine rl_condM (j := 19) h rfl (fun g18 h => ?_) (fun g18 h => ?_)
   ·
    refine oP 19 rfl rfl g18 (oP 19 rfl rfl g18 (oP 19 rfl rfl g18 (oP 19 rfl rfl g18 (oP 19 rfl rfl g18 ?_))))
    exact oP 19 rfl rfl g18 (oV (v_pick_t rfl g18 rfl) (hJ17 _ () h _ (join_imp 7 rfl rfl (mod_cons (j := 26) rfl (fun _ _ h => h) mod_nil) (.cons .here .nil))))
   ·
    refine oK 19 rfl rfl rfl g18 (v_fi rfl GTyp.f4 fd87_4 rfl (z := a_t.fields)) (oK 19 rfl rfl rfl g18 (v_loadI ty85 rfl) (oK 19 rfl rfl rfl g18 (v_move rfl) (cal_inv h fun y19 hy19 h => oK 19 rfl rfl rfl g18 (v_ix (l := a_t.fields) rfl (fun _ _ h => h) rfl sl85 hy19) ?_)))
    exact oK 19 rfl rfl rfl g18 (v_fi rfl GFld.f3 fd92_3 rfl (z := y19.has)) (oK 19 rfl rfl rfl g18 (v_loadI ty4 rfl) (oV (v_pick_f rfl g18 rfl) (hJ17 _ () h _ (join_imp 7 rfl rfl (mod_cons (j := 26) rfl (fun _ _ h => h) mod_nil) (.cons .here .nil)))))
 ·
  refine w_exit (exi_nxt (eL2 _ _ (exi_block (fin_nxt ?_))))
  refine wsr (oM rfl (oA rfl (rnf (w_ret ?_))))
  refine ret_post (.as rfl appv_isv .nil) .nil ?_
  obtain rfl := Option.some.inj h
  exact ⟨rfl, rfl⟩


theorem r10_Last_w : ∀ {a_t : GTyp} {r : Int}, r10_Last a_t = some r → Ctr Tryz.prog 165 [isv (a_t)] [] (fun R H => R = oneOf [isv (r)] ∧ H = []) := by
 intro a_t r h
 unfold r10_Last at h
 refine spec_intro Tryz.func165 rfl (by decide +kernel) (by rfl) fun w0 S0 hT => ?_
 refine wsr (oT (t_boxIC (y := a_t) rfl (fun _ _ h => h) (oA rfl (rnf (wsr ?_)))))
 refine oV (v_loadI ty87 rfl) (cal_inv h fun y1 hy1 h => oT (t_call (r10_Loose_w hy1) hT (.same rfl .nil) .nil (fun R H' hR => ?_)))
 obtain ⟨rfl, rfl⟩ := hR
 refine oA rfl (rnf (wsr (oV (v_fi rfl GTyp.f5 fd87_5 rfl (z := a_t.root)) (oV (v_loadI ty3 rfl) ?_))))
 refine oA rfl (rnf (w_seq (w_block (w_lp (ι := Int) (γ := Unit) (fun q2 g2 => [(4, isv (q2))]) (fun q2 g2 => []) h () (mod_cons (j := 4) rfl (fun _ _ h => h) mod_nil) .nil (fun L3 q2 g2 Q16 h hL3 eL3 rL3 => ?_)))))
 refine w_seq (wsr (oM rfl (oV (v_gtr rfl rfl) (oM rfl ?_))))
 refine rl_j (jb 17) je .nil h 6 rfl (fun q10 g10 h => ?_) (fun J11 h hJ11 => ?_)
 ·
  refine rnf (w_condM h rfl (fun _ h => ?_) (fun _ h => ?_))
  ·
   refine wkf (w_block (w_region (oM rfl (ck_inv h fun q15 h => ?_))))
   exact oV (v_sub rfl rfl q15) (oA rfl (rl_nil (fin_block (hL3 _ () h _ (ji 8 4 rfl rfl rfl)))))
  ·
   refine w_exit (exi_nxt (eL3 _ _ (exi_block (fin_nxt ?_))))
   refine wsr (oM rfl (oA rfl (rnf (w_ret ?_))))
   refine ret_post (.tmp rfl .nil) .nil ?_
   obtain rfl := Option.some.inj h
   exact ⟨rfl, rfl⟩
 ·
  refine rl_condM (j := 11) h rfl (fun g12 h => ?_) (fun g12 h => ?_)
  ·
   refine oK 11 rfl rfl rfl g12 (v_move rfl) (oK 11 rfl rfl rfl g12 (v_move rfl) (ck_inv h fun q13 h => oK 11 rfl rfl rfl g12 (v_sub rfl rfl q13) (cal_inv h fun y14 hy14 h => ?_)))
   exact oK 11 rfl rfl rfl g12 (v_ix (l := y1) rfl (fun _ _ h => h) rfl sl49 hy14) (oK 11 rfl rfl rfl g12 (v_loadI ty4 rfl) (oV (v_pick_t rfl g12 rfl) (hJ11 _ () h _ (ji 6 17 rfl rfl rfl))))
  ·
   refine oP 11 rfl rfl g12 (oP 11 rfl rfl g12 (oP 11 rfl rfl g12 (oP 11 rfl rfl g12 (oP 11 rfl rfl g12 ?_))))
   exact oV (v_pick_f rfl g12 rfl) (hJ11 _ () h _ (ji 6 17 rfl rfl rfl))


theorem r10_maker_apart_w : ∀ {a_x : GMk} {a_t : GTyp} {b_a_x : Nat} {v_a_x1 : Vt} {r : Bool × GMk}, r10_maker_apart a_x a_t = some r → Ctr Tryz.prog 176 [ptrv b_a_x (Fld.id (GMod × Vh × Int)), isv (a_t)] [boxE b_a_x ((a_x.m, (Vh.mk v_a_x1 a_x.l.length), a_x.e) : (GMod × Vh × Int)), vecE v_a_x1 (a_x.l : List GTyp)] (fun R H => R = oneOf [isv (r.1)] ∧ H = [boxE b_a_x ((r.2.m, (Vh.mk v_a_x1 r.2.l.length), r.2.e)), vecE v_a_x1 (r.2.l)]) := by
 intro a_x a_t b_a_x v_a_x1 r h
 unfold r10_maker_apart at h
 refine spec_intro Tryz.func176 rfl (by decide +kernel) (by rfl) fun w0 S0 hT => ?_
 refine wsr (oT (t_boxIC (y := a_t) rfl (fun _ _ h => h) (oA rfl (rnf (w_seq ?_)))))
 refine wsr (oV (v_fi rfl GTyp.f0 fd87_0 rfl (z := a_t.kind)) (oV (v_loadI ty3 rfl) (oV (v_neq rfl rfl) (rnf ?_))))
 refine w_condM h rfl (fun _ h => ?_) (fun _ h => ?_)
 ·
  refine wsr (oM rfl (oV (v_fi rfl GTyp.f4 fd87_4 rfl (z := a_t.fields)) (oV (v_loadI ty85 rfl) (oV (v_fi rfl GTyp.f6 fd87_6 rfl (z := a_t.more)) ?_))))
  refine oV (v_loadI ty4 rfl) (cal_inv h fun y2 hy2 h => oT (t_call (r10_maker_told_w hy2) hT (.same rfl (.same rfl (.same rfl .nil))) (.cons .here (.cons .here .nil)) (fun R H' hR => ?_)))
  obtain ⟨rfl, rfl⟩ := hR
  refine oA rfl (rnf (w_ret (ret_nxt (ret_post (.tmp rfl .nil) (.cons .here (.cons .here .nil)) ?_))))
  obtain rfl := Option.some.inj h
  exact ⟨rfl, rfl⟩
 ·
  refine wkf (wsr (oV (v_loadI ty87 rfl) (cal_inv h fun y3 hy3 h => oT (t_call (r10_Loose_w hy3) hT (.same rfl .nil) .nil (fun R H' hR => ?_)))))
  obtain ⟨rfl, rfl⟩ := hR
  refine oA rfl (rnf (w_seq (wsr (oA rfl ?_))))
  refine rnf (w_block (w_lp (ι := Int × GMk) (γ := Unit) (fun q4 g4 => [(6, isv (q4.1))]) (fun q4 g4 => [boxE b_a_x ((q4.2.m, (Vh.mk v_a_x1 q4.2.l.length), q4.2.e) : (GMod × Vh × Int)), vecE v_a_x1 (q4.2.l : List GTyp)]) h () (mod_cons (j := 6) rfl (fun _ _ h => h) mod_nil) (.cons .here (.cons .here .nil)) (fun L5 q4 g4 Q66 h hL5 eL5 rL5 => w_seq (wsr ?_))))
  refine oM rfl (oV (v_fi rfl GTyp.f4 fd87_4 rfl (z := a_t.fields)) (oV (v_loadI ty85 rfl) (oV (v_ln (l := a_t.fields) rfl (fun _ _ h => h) sl85) (oV (v_lss rfl rfl) ?_))))
  refine rnf (w_condM h rfl (fun _ h => ?_) (fun _ h => ?_))
  ·
   refine wkf (w_seq (w_J (ι := GMk) (γ := Unit) (fun q36 g36 => []) (fun q36 g36 => [boxE b_a_x ((q36.m, (Vh.mk v_a_x1 q36.l.length), q36.e) : (GMod × Vh × Int)), vecE v_a_x1 (q36.l : List GTyp)]) (.cons .here (.cons .here .nil)) h (fun q36 g36 h => ?_) (fun J37 h hJ37 => ?_)))
   ·
    refine w_region (oM rfl (ck_inv h fun q59 h => oV (v_add rfl rfl q59) (oA rfl ?_)))
    exact rl_nil (hL5 _ () h _ (join_imp 9 rfl rfl (mod_cons (j := 6) rfl (fun _ _ h => h) mod_nil) (.cons .here (.cons .here .nil))))
   ·
    refine w_block (w_seq (wsr (oM rfl (oM rfl ?_))))
    refine cal_inv h fun y38 hy38 h => oV (v_ix (l := y3) rfl (fun _ _ h => h) rfl sl49 hy38) (oV (v_loadI ty4 rfl) (oV (v_not rfl) (rnf ?_)))
    refine w_condM h rfl (fun _ h => ?_) (fun _ h => ?_)
    ·
     exact w_exit (exi_nxt (exi_block (hJ37 _ () h _ (join_imp 5 rfl rfl mod_nil (.cons .here (.cons .here .nil))))))
    ·
     refine wkf (wsr (oM rfl (ck_inv h fun q39 h => oV (v_add rfl rfl q39) ?_)))
     refine oA rfl (rnf (w_seq (w_block (w_lp (ι := Int) (γ := Unit) (fun q40 g40 => [(7, isv (q40))]) (fun q40 g40 => []) h () (mod_cons (j := 7) rfl (fun _ _ h => h) mod_nil) .nil (fun L41 q40 g40 Q58 h hL41 eL41 rL41 => ?_)))))
     refine w_seq (wsr (oM rfl (oV (v_fi rfl GTyp.f4 fd87_4 rfl (z := a_t.fields)) (oV (v_loadI ty85 rfl) ?_))))
     refine oV (v_ln (l := a_t.fields) rfl (fun _ _ h => h) sl85) (oV (v_lss rfl rfl) (oM rfl (rl_j (jb 43) je .nil h 5 rfl (fun q50 g50 h => ?_) (fun J51 h hJ51 => ?_))))
     ·
      refine rnf (w_condM h rfl (fun _ h => ?_) (fun _ h => ?_))
      ·
       refine wkf (w_block (w_region (oM rfl (ck_inv h fun q54 h => ?_))))
       exact oV (v_add rfl rfl q54) (oA rfl (rl_nil (fin_block (hL41 _ () h _ (join_imp 11 rfl rfl (mod_cons (j := 7) rfl (fun _ _ h => h) mod_nil) (.cons .here (.cons .here .nil)))))))
      ·
       refine w_exit (exi_nxt (eL41 _ _ (exi_block (fin_nxt ?_))))
       refine wsr (oM rfl (oV (v_fi rfl GTyp.f4 fd87_4 rfl (z := a_t.fields)) (oV (v_loadI ty85 rfl) (oM rfl ?_))))
       refine oM rfl (ck_inv h fun q55 h => oV (v_add rfl rfl q55) (oV (v_fi rfl GTyp.f4 fd87_4 rfl (z := a_t.fields)) (oV (v_loadI ty85 rfl) ?_)))
       refine oV (v_ln (l := a_t.fields) rfl (fun _ _ h => h) sl85) (oV (v_min rfl rfl) (asd_inv h fun q56 h => oV (v_sl (l := a_t.fields) rfl (fun _ _ h => h) sl85 (.inr ⟨_, rfl, rfl⟩) (.inr ⟨_, rfl, rfl⟩) q56.1 q56.2.1 q56.2.2) (cal_inv h fun y57 hy57 h => ?_)))
       refine oT (t_call (r10_maker_told_w hy57) hT (.same rfl (.same rfl (.same rfl .nil))) (.cons .here (.cons .here .nil)) (fun R H' hR => ?_))
       obtain ⟨rfl, rfl⟩ := hR
       refine oV (v_not rfl) (rnf (w_condM h rfl (fun _ h => ?_) (fun _ h => ?_)))
       ·
        refine wsr (oA rfl (rnf (w_ret (ret_block ?_))))
        refine ret_nxt (rL5 _ (ret_block (ret_nxt (ret_post (.tmp rfl .nil) (.cons .here (.cons .here .nil)) ?_))))
        obtain rfl := Option.some.inj h
        exact ⟨rfl, rfl⟩
       ·
        exact w_skip (fin_block (hJ37 _ () h _ (join_imp 29 rfl rfl mod_nil (.cons .here (.cons .here .nil)))))
     ·
      refine rl_condM (j := 38) h rfl (fun g52 h => ?_) (fun g52 h => ?_)
      ·
       refine oK 38 rfl rfl rfl g52 (v_move rfl) (oK 38 rfl rfl rfl g52 (v_move rfl) (cal_inv h fun y53 hy53 h => oK 38 rfl rfl rfl g52 (v_ix (l := y3) rfl (fun _ _ h => h) rfl sl49 hy53) (oK 38 rfl rfl rfl g52 (v_loadI ty4 rfl) ?_)))
       exact oV (v_pick_t rfl g52 rfl) (hJ51 _ () h _ (join_imp 5 rfl rfl (mod_cons (j := 43) rfl (fun _ _ h => h) mod_nil) (.cons .here (.cons .here .nil))))
      ·
       refine oP 38 rfl rfl g52 (oP 38 rfl rfl g52 (oP 38 rfl rfl g52 (oP 38 rfl rfl g52 (oV (v_pick_f rfl g52 rfl) ?_))))
       exact hJ51 _ () h _ (join_imp 5 rfl rfl (mod_cons (j := 43) rfl (fun _ _ h => h) mod_nil) (.cons .here (.cons .here .nil)))
  ·
   refine w_exit (exi_nxt (eL5 _ _ (exi_block (fin_nxt ?_))))
   refine w_seq (w_regionD (.v 0 (.v 1 (.v 2 (.v 3 (.v 4 (.v 5 (.v 6 (.v 7 (.t 8 (.v 9 (.t 10 (.v 11 (.v 12 .nil))))))))))))) moOrd (by kernel_rfl) ?_)
   refine rd_v rfl (v_fi rfl GTyp.f6 fd87_6 rfl (z := a_t.more)) (rd_v rfl (v_loadI ty4 rfl) (rd_v rfl (v_not rfl) (rvm rfl rfl (rd_j (ι := Bool × GMk) (γ := Unit) (fun q60 g60 => [(70, isv (q60.1))]) (fun q60 g60 => [boxE b_a_x ((q60.2.m, (Vh.mk v_a_x1 q60.2.l.length), q60.2.e) : (GMod × Vh × Int)), vecE v_a_x1 (q60.2.l : List GTyp)]) (.cons .here (.cons .here .nil)) h 8 rfl (fun q60 g60 h => ?_) (fun J61 h hJ61 => ?_)))))
   ·
    refine rd_v rfl (v_assign rfl) (rd_nil (fin_nxt (w_ret (ret_post (.tmp rfl .nil) (.cons .here (.cons .here .nil)) ?_))))
    obtain rfl := Option.some.inj h
    exact ⟨rfl, rfl⟩
   ·
    refine rd_condM (j := 62) h rfl (fun g62 h => ?_) (fun g62 h => ?_)
    ·
     refine rpv 62 rfl rfl rfl g62 (rpv 62 rfl rfl rfl g62 (rpv 62 rfl rfl rfl g62 (rpv 62 rfl rfl rfl g62 (rd_passT rfl rfl (dj := 62) rfl g62 ?_))))
     exact rpv 62 rfl rfl rfl g62 (rd_passT rfl rfl (dj := 62) rfl g62 (rd_v rfl (v_pick_t rfl g62 rfl) (hJ61 _ () h _ (join_imp 8 rfl rfl (mod_cons (j := 70) rfl (fun _ _ h => h) mod_nil) (.cons .here (.cons .here .nil))))))
    ·
     refine rvt 62 rfl rfl rfl g62 (v_move rfl) (rvt 62 rfl rfl rfl g62 (v_fi rfl GTyp.f4 fd87_4 rfl (z := a_t.fields)) (rvt 62 rfl rfl rfl g62 (v_loadI ty85 rfl) (rvt 62 rfl rfl rfl g62 (v_loadI ty87 rfl) (cal_inv h fun y63 hy63 h => ?_))))
     refine rd_tt rfl rfl rfl (dj := 62) rfl g62 (t_call (r10_Last_w hy63) hT (.same rfl .nil) .nil (fun R H' hR => ?_))
     obtain ⟨rfl, rfl⟩ := hR
     refine asd_inv h fun q64 h => rvt 62 rfl rfl rfl g62 (v_sl (l := a_t.fields) rfl (fun _ _ h => h) sl85 (.inr ⟨_, rfl, rfl⟩) (.inl ⟨rfl, rfl⟩) q64.1 q64.2.1 q64.2.2) (cal_inv h fun y65 hy65 h => rd_tt rfl rfl rfl (dj := 62) rfl g62 (t_call (r10_maker_told_w hy65) hT (.same rfl (.same rfl (.same rfl .nil))) (.cons .here (.cons .here .nil)) (fun R H' hR => ?_)))
     obtain ⟨rfl, rfl⟩ := hR
     exact rd_v rfl (v_pick_f rfl g62 rfl) (hJ61 _ () h _ (join_imp 8 rfl rfl (mod_cons (j := 70) rfl (fun _ _ h => h) mod_nil) (.cons .here (.cons .here .nil))))

end Go.Proofs.YtnnijoepfgnlfaaGreatDoor


namespace Go.Proofs.YtnnijoepfgnlfaaGreatDoor
open Go.Sy
set_option maxRecDepth 4000
def r10_maker_fields_C (f' : GMk → Int → GNode → Int → Option (GMk)) : Prop :=
 ∀ {a_x : GMk} {a_i : Int} {a_n_ : GNode} {a_depth : Int} {b_a_x : Nat} {v_a_x1 : Vt} {r : GMk}, f' a_x a_i a_n_ a_depth = some r → Ctr Tryz.prog 154 [ptrv b_a_x (Fld.id (GMod × Vh × Int)), isv (a_i), isv (a_n_), isv (a_depth)] [boxE b_a_x ((a_x.m, (Vh.mk v_a_x1 a_x.l.length), a_x.e) : (GMod × Vh × Int)), vecE v_a_x1 (a_x.l : List GTyp)] (fun R H => ∃ u1 : Vt, R = oneOf [] ∧ H = [boxE b_a_x ((r.m, (Vh.mk u1 r.l.length), r.e)), vecE u1 (r.l)])
def r10_maker_node_C (f' : GMk → Int → Int → Option (Int × GMk)) : Prop :=
 ∀ {a_x : GMk} {a_k : Int} {a_depth : Int} {b_a_x : Nat} {v_a_x1 : Vt} {r : Int × GMk}, f' a_x a_k a_depth = some r → Ctr Tryz.prog 77 [ptrv b_a_x (Fld.id (GMod × Vh × Int)), isv (a_k), isv (a_depth)] [boxE b_a_x ((a_x.m, (Vh.mk v_a_x1 a_x.l.length), a_x.e) : (GMod × Vh × Int)), vecE v_a_x1 (a_x.l : List GTyp)] (fun R H => ∃ u1 : Vt, R = oneOf [isv (r.1)] ∧ H = [boxE b_a_x ((r.2.m, (Vh.mk u1 r.2.l.length), r.2.e)), vecE u1 (r.2.l)])
def r10_maker_made_C (f' : GMk → GNode → Int → Option (Int × GMk)) : Prop :=
 ∀ {a_x : GMk} {a_n_ : GNode} {a_depth : Int} {b_a_x : Nat} {v_a_x1 : Vt} {r : Int × GMk}, f' a_x a_n_ a_depth = some r → Ctr Tryz.prog 113 [ptrv b_a_x (Fld.id (GMod × Vh × Int)), isv (a_n_), isv (a_depth)] [boxE b_a_x ((a_x.m, (Vh.mk v_a_x1 a_x.l.length), a_x.e) : (GMod × Vh × Int)), vecE v_a_x1 (a_x.l : List GTyp)] (fun R H => ∃ u1 : Vt, R = oneOf [isv (r.1)] ∧ H = [boxE b_a_x ((r.2.m, (Vh.mk u1 r.2.l.length), r.2.e)), vecE u1 (r.2.l)])
theorem r10_maker_fields_w0 {r10_maker_fields' : GMk → Int → GNode → Int → Option (GMk)} {r10_maker_node' : GMk → Int → Int → Option (Int × GMk)} {r10_maker_made' : GMk → GNode → Int → Option (Int × GMk)} (h_r10_maker_fields : r10_maker_fields_C r10_maker_fields') (h_r10_maker_node : r10_maker_node_C r10_maker_node') (h_r10_maker_made : r10_maker_made_C r10_maker_made') : ∀ {a_x : GMk} {a_i : Int} {a_n_ : GNode} {a_depth : Int} {b_a_x : Nat} {v_a_x1 : Vt} {r : GMk}, r10_maker_fields_F r10_maker_fields' r10_maker_node' r10_maker_made' a_x a_i a_n_ a_depth = some r → Ctr Tryz.prog 154 [ptrv b_a_x (Fld.id (GMod × Vh × Int)), isv (a_i), isv (a_n_), isv (a_depth)] [boxE b_a_x ((a_x.m, (Vh.mk v_a_x1 a_x.l.length), a_x.e) : (GMod × Vh × Int)), vecE v_a_x1 (a_x.l : List GTyp)] (fun R H => ∃ u1 : Vt, R = oneOf [] ∧ H = [boxE b_a_x ((r.m, (Vh.mk u1 r.l.length), r.e)), vecE u1 (r.l)]) := by
 intro a_x a_i a_n_ a_depth b_a_x v_a_x1 r h
 unfold r10_maker_fields_F at h
 refine spec_intro Tryz.func154 rfl (by decide +kernel) (by rfl) fun w0 S0 hT => ?_
 refine wsr (oT (t_boxIC (y := a_n_) rfl (fun _ _ h => h) (rnf (wsr (oM rfl ?_)))))
 refine oV (v_nilCheck rfl) (oV (v_fa rfl pt141_0_0 fd141_0) (oV (v_fa rfl GMod.f1 fd73_1) (oT (t_loadC (R := isv (a_x.m.tagging)) ty3 rfl .here (fun _ _ h => h) (oV (v_neq rfl rfl) ?_)))))
 refine oA rfl (rnf (w_seq (wsr (oA rfl ?_))))
 refine rnf (w_block (w_lp (ι := Bool × Int) (γ := Unit) (fun q2 g2 => [(0, ptrv b_a_x (Fld.id (GMod × Vh × Int))), (8, isv (q2.1)), (9, isv (q2.2))]) (fun q2 g2 => []) h () (mod_cons (j := 0) rfl (fun _ _ h => h) (mod_cons (j := 8) rfl (fun _ _ h => h) (mod_cons (j := 9) rfl (fun _ _ h => h) mod_nil))) .nil (fun L3 q2 g2 Q336 h hL3 eL3 rL3 => w_seq (wsr ?_))))
 refine oM rfl (oV (v_fi rfl GNode.f5 fd167_5 rfl (z := a_n_.fields)) (oV (v_loadI ty85 rfl) (oV (v_ln (l := a_n_.fields) rfl (fun _ _ h => h) sl85) (oV (v_lss rfl rfl) ?_))))
 refine rnf (w_condM h rfl (fun _ h => ?_) (fun _ h => ?_))
 ·
  refine wkf (w_seq (w_block (wsr (oV (v_fi rfl GNode.f5 fd167_5 rfl (z := a_n_.fields)) ?_))))
  refine oV (v_loadI ty85 rfl) (oM rfl (cal_inv h fun y170 hy170 h => oV (v_ix (l := a_n_.fields) rfl (fun _ _ h => h) rfl sl85 hy170) (oV (v_loadI ty92 rfl) ?_)))
  refine oT (t_alloc _ ze92 fun b171 => oT (t_storeC (y' := (y170 : GFld)) ty92 rfl rfl (fun _ _ h => h) .here rfl (rl_upd (upd_imm 10 .here rfl) (rnf (w_pinN 0 .here rfl (fun o172 hn173 => ?_))))))
  refine w_regionD (.v 0 (.v 1 (.v 2 (.v 3 (.v 4 (.v 5 (.v 6 (.v 7 (.v 8 (.v 9 (.v 10 (.v 11 (.v 12 (.v 13 (.v 14 .nil))))))))))))))) moOrd (by kernel_rfl) ?_
  refine rvm rfl rfl (rvm rfl rfl (rd_j (jb 46) je .nil h 12 rfl (fun q174 g174 h => ?_) (fun J175 h hJ175 => ?_)))
  ·
   refine rd_v rfl (v_assign rfl) (rd_nil (fin_unpinN 0 hn173 rfl (fin_block (fin_nxt ?_))))
   refine w_region (oM rfl (ck_inv h fun q178 h => oV (v_add rfl rfl q178) (oA rfl ?_)))
   exact rl_nil (hL3 _ () h _ (join_imp 24 rfl rfl (mod_cons (j := 0) rfl (fun _ _ h => h) (mod_cons (j := 8) rfl (fun _ _ h => h) (mod_cons (j := 9) rfl (fun _ _ h => h) mod_nil))) (.cons .here (.cons .here .nil))))
  ·
   refine rd_condM (j := 34) h rfl (fun g176 h => ?_) (fun g176 h => ?_)
   ·
    refine rpv 34 rfl rfl rfl g176 (rpv 34 rfl rfl rfl g176 (rpv 34 rfl rfl rfl g176 (rpv 34 rfl rfl rfl g176 (rpv 34 rfl rfl rfl g176 ?_))))
    refine rpv 34 rfl rfl rfl g176 (rpv 34 rfl rfl rfl g176 (rpv 34 rfl rfl rfl g176 (rpv 34 rfl rfl rfl g176 (rpv 34 rfl rfl rfl g176 ?_))))
    exact rpv 34 rfl rfl rfl g176 (rd_v rfl (v_pick_t rfl g176 rfl) (hJ175 _ () h _ (join_imp 12 rfl rfl (mod_cons (j := 46) rfl (fun _ _ h => h) mod_nil) (.cons .here .nil))))
   ·
    refine rvt 34 rfl rfl rfl g176 (v_move rfl) (rvt 34 rfl rfl rfl g176 (v_nilCheckP rfl) (rvt 34 rfl rfl rfl g176 (v_fp rfl pt141_0_0 fd141_0) (rvt 34 rfl rfl rfl g176 (v_fp rfl GMod.f4 fd73_4) (rvt 34 rfl rfl rfl g176 (v_lpC (R := isv (a_x.m.nodes)) ty71 rfl (List.Mem.head _) (fun _ _ h => h)) ?_))))
    refine rvt 34 rfl rfl rfl g176 (v_fi rfl GFld.f1 fd92_1 rfl (z := y170.ty)) (rvt 34 rfl rfl rfl g176 (v_loadI ty3 rfl) (cal_inv h fun y177 hy177 h => rvt 34 rfl rfl rfl g176 (v_ix (l := a_x.m.nodes) rfl (fun _ _ h => h) rfl sl71 hy177) (rvt 34 rfl rfl rfl g176 (v_fi rfl GNode.f2 fd167_2 rfl (z := y177.mark)) ?_)))
    exact rvt 34 rfl rfl rfl g176 (v_fi rfl GMark.f0 fd165_0 rfl (z := y177.mark.has)) (rvt 34 rfl rfl rfl g176 (v_loadI ty4 rfl) (rd_v rfl (v_pick_f rfl g176 rfl) (hJ175 _ () h _ (join_imp 12 rfl rfl (mod_cons (j := 46) rfl (fun _ _ h => h) mod_nil) (.cons .here .nil)))))
 ·
  refine w_exit (exi_nxt (eL3 _ _ (exi_block (fin_nxt ?_))))
  refine w_seq (wsr (oV (v_fi rfl GNode.f0 fd167_0 rfl (z := a_n_.kind)) (oV (v_loadI ty3 rfl) (oV (v_eql rfl rfl) ?_))))
  refine oM rfl (rl_j (jb 55) je .nil h 5 rfl (fun q179 g179 h => ?_) (fun J180 h hJ180 => ?_))
  ·
   refine oM rfl (rl_j (jb 60) je .nil h 4 rfl (fun q182 g182 h => ?_) (fun J183 h hJ183 => ?_))
   ·
    refine rnf (w_J (ι := GMk) (γ := Unit) (fun q185 g185 => []) (fun q185 g185 => [boxE b_a_x ((q185.m, (Vh.mk v_a_x1 q185.l.length), q185.e) : (GMod × Vh × Int)), vecE v_a_x1 (q185.l : List GTyp)]) (.cons .here (.cons .here .nil)) h (fun q185 g185 h => ?_) (fun J186 h hJ186 => ?_))
    ·
     refine wsr (oA rfl (rnf (w_seq (wsr ?_))))
     refine oA rfl (rnf (w_block (w_upd (upd_tok) (w_lp (ι := (List GFld) × Int × GMk) (γ := Tok × Vt) (fun q188 g188 => [(11, appv g188.1 (q188.1)), (12, isv (q188.2.1))]) (fun q188 g188 => [tokE g188.1, boxE b_a_x ((q188.2.2.m, (Vh.mk g188.2 q188.2.2.l.length), q188.2.2.e) : (GMod × Vh × Int)), vecE g188.2 (q188.2.2.l : List GTyp)]) h (none, v_a_x1) (mod_cons (j := 11) rfl nilv_appv (mod_cons (j := 12) rfl (fun _ _ h => h) mod_nil)) (.cons .here (.cons .here (.cons .here .nil))) (fun L189 q188 g188 Q335 h hL189 eL189 rL189 => ?_)))))
     refine w_seq (wsr (oM rfl (oV (v_fi rfl GNode.f5 fd167_5 rfl (z := a_n_.fields)) (oV (v_loadI ty85 rfl) ?_))))
     refine oV (v_ln (l := a_n_.fields) rfl (fun _ _ h => h) sl85) (oV (v_lss rfl rfl) (oM rfl (rl_j (jb 74) je .nil h 6 rfl (fun q262 g262 h => ?_) (fun J263 h hJ263 => ?_))))
     ·
      refine rnf (w_condM h rfl (fun _ h => ?_) (fun _ h => ?_))
      ·
       refine wkf (w_seq (w_block (wsr (oV (v_fi rfl GNode.f5 fd167_5 rfl (z := a_n_.fields)) ?_))))
       refine oV (v_loadI ty85 rfl) (oM rfl (cal_inv h fun y265 hy265 h => oV (v_ix (l := a_n_.fields) rfl (fun _ _ h => h) rfl sl85 hy265) (oV (v_loadI ty92 rfl) ?_)))
       refine oT (t_alloc _ ze92 fun b266 => oT (t_storeC (y' := (y265 : GFld)) ty92 rfl rfl (fun _ _ h => h) .here rfl (rnf (w_seq (wsr ?_)))))
       refine oA rfl (rnf (w_block (w_lp (ι := Int × GMk) (γ := Unit) (fun q267 g267 => [(13, ptrv b266 (Fld.id GFld)), (14, isv (q267.1))]) (fun q267 g267 => [boxE b_a_x ((q267.2.m, (Vh.mk g188.2 q267.2.l.length), q267.2.e) : (GMod × Vh × Int)), vecE g188.2 (q267.2.l : List GTyp)]) h () (mod_cons (j := 13) rfl (fun _ _ h => h) (mod_cons (j := 14) rfl (fun _ _ h => h) mod_nil)) (.cons (.there (.there .here)) (.cons (.there (.there .here)) .nil)) (fun L268 q267 g267 Q327 h hL268 eL268 rL268 => w_seq ?_))))
       refine wsr (oM rfl (oM rfl (oV (v_lss rfl rfl) (rnf ?_))))
       refine w_condM h rfl (fun _ h => ?_) (fun _ h => ?_)
       ·
        refine wkf (w_seq (w_J (ι := GMk) (γ := Unit) (fun q298 g298 => [(13, ptrv b266 (Fld.id GFld))]) (fun q298 g298 => [boxE b_a_x ((q298.m, (Vh.mk g188.2 q298.l.length), q298.e) : (GMod × Vh × Int)), vecE g188.2 (q298.l : List GTyp)]) (.cons .here (.cons .here .nil)) h (fun q298 g298 h => ?_) (fun J299 h hJ299 => ?_)))
        ·
         refine w_region (oM rfl (ck_inv h fun q304 h => oV (v_add rfl rfl q304) (oA rfl ?_)))
         exact rl_nil (hL268 _ () h _ (join_imp 9 rfl rfl (mod_cons (j := 13) rfl (fun _ _ h => h) (mod_cons (j := 14) rfl (fun _ _ h => h) mod_nil)) (.cons .here (.cons .here (.cons .here (.cons .here .nil))))))
        ·
         refine w_block (w_seq (w_pinN 13 (.there (.there .here)) rfl (fun o300 hn301 => w_regionD (.v 0 (.v 1 (.v 2 (.v 3 (.v 4 (.v 5 (.v 6 (.v 7 (.v 8 .nil))))))))) moOrd (by kernel_rfl) ?_)))
         refine rd_v rfl (v_fi rfl GNode.f5 fd167_5 rfl (z := a_n_.fields)) (rd_v rfl (v_loadI ty85 rfl) (rvm rfl rfl (cal_inv h fun y302 hy302 h => rd_v rfl (v_ix (l := a_n_.fields) rfl (fun _ _ h => h) rfl sl85 hy302) ?_)))
         refine rd_v rfl (v_fi rfl GFld.f0 fd92_0 rfl (z := y302.name)) (rd_v rfl (v_loadI ty9 rfl) (rd_v rfl (v_fp rfl GFld.f0 fd92_0) (rd_v rfl (v_lpC (R := isv (y265.name)) ty9 rfl (List.Mem.head _) (fun _ _ h => h)) (rd_v rfl (v_eqA eq9 rfl rfl) ?_))))
         refine rd_nil (fin_unpinN 13 hn301 rfl (fin_nxt (w_condM h rfl (fun _ h => ?_) (fun _ h => ?_))))
         ·
          refine w_region (oM rfl (cal_inv h fun y303 hy303 h => oT (t_call (r10_maker_fail_w hy303) hT (.same rfl (.same rfl .nil)) (.cons (.there .here) (.cons (.there .here) .nil)) (fun R H' hR => ?_))))
          obtain ⟨rfl, rfl⟩ := hR
          exact rl_nil (fin_block (hJ299 _ () h _ (join_imp 13 rfl rfl (mod_cons (j := 13) rfl (fun _ _ h => h) mod_nil) (.cons .here (.cons .here (.cons .here (.cons .here .nil)))))))
         ·
          exact w_skip (fin_block (hJ299 _ () h _ (join_imp 11 rfl rfl (mod_cons (j := 13) rfl (fun _ _ h => h) mod_nil) (.cons (.there .here) (.cons (.there .here) (.cons .here (.cons .here .nil)))))))
       ·
        refine w_exit (exi_nxt (eL268 _ _ (exi_block (fin_nxt ?_))))
        refine wsr (oM rfl (oV (v_fa rfl GFld.f1 fd92_1) (oT (t_loadC (R := isv (y265.ty)) ty3 rfl (.there (.there .here)) (fun _ _ h => h) (oM rfl ?_)))))
        refine ck_inv h fun q305 h => oV (v_add rfl rfl q305) (cal_inv h fun y306 hy306 h => oT (t_call (h_r10_maker_node hy306) hT (.same rfl (.same rfl (.same rfl .nil))) (.cons .here (.cons .here .nil)) (fun R H' hR => ?_)))
        obtain ⟨v307, rfl, rfl⟩ := hR
        refine oV (v_fa rfl GFld.f1 fd92_1) (oT (t_storeC (y' := ({ y265 with ty := y306.1 } : GFld)) ty3 rfl rfl (fun _ _ h => h) (.there (.there .here)) rfl (rnf (w_seq (wsr ?_)))))
        refine oM rfl (oV (v_nilCheck rfl) (oV (v_fa rfl pt141_0_2 fd141_2) (oT (t_loadC (R := isv (y306.2.e)) ty65 rfl (.there .here) (fun _ _ h => h) (oV (v_eql rfl rfl) ?_)))))
        refine oM rfl (rl_j (jb 113) je .nil h 3 rfl (fun q308 g308 h => ?_) (fun J309 h hJ309 => ?_))
        ·
         refine rnf (w_J (ι := GFld × GMk) (γ := Unit) (fun q311 g311 => []) (fun q311 g311 => [boxE b266 (q311.1 : GFld), boxE b_a_x ((q311.2.m, (Vh.mk v307 q311.2.l.length), q311.2.e) : (GMod × Vh × Int)), vecE v307 (q311.2.l : List GTyp)]) (.cons .here (.cons .here (.cons .here .nil))) h (fun q311 g311 h => ?_) (fun J312 h hJ312 => ?_))
         ·
          refine w_seq (wsr (oM rfl (oV (v_nilCheck rfl) (oV (v_fa rfl pt141_0_2 fd141_2) ?_))))
          refine oT (t_loadC (R := isv (q311.2.e)) ty65 rfl (.there .here) (fun _ _ h => h) (oV (v_eql rfl rfl) (oM rfl (rl_j (jb 129) je .nil h 3 rfl (fun q314 g314 h => ?_) (fun J315 h hJ315 => ?_)))))
          ·
           refine rnf (w_J (ι := GMk) (γ := Unit) (fun q317 g317 => [(13, ptrv b266 (Fld.id GFld))]) (fun q317 g317 => [boxE b_a_x ((q317.m, (Vh.mk v307 q317.l.length), q317.e) : (GMod × Vh × Int)), vecE v307 (q317.l : List GTyp)]) (.cons (.there .here) (.cons (.there .here) .nil)) h (fun q317 g317 h => ?_) (fun J318 h hJ318 => ?_))
           ·
            refine w_region (oM rfl (oT (t_loadC (R := isv (q311.1)) ty92 rfl (.there (.there .here)) (fun _ _ h => h) (oT (t_buildSlice (l := ([q311.1] : (List GFld))) el85 (.cons rfl (fun _ _ h => h) .nil) rfl rfl (asr_inv h fun q325 h => ?_))))))
            refine oT (t_appC (l := q188.1) (m := ([q311.1] : (List GFld))) ap85_85 rfl (fun _ _ h => h) rfl appv_isv (.there (.there (.there .here))) q325 fun t324 => oA rfl (rl_nil (fin_block (fin_nxt ?_))))
            refine w_region (oM rfl (ck_inv h fun q326 h => oV (v_add rfl rfl q326) (oA rfl ?_)))
            exact rl_nil (hL189 _ (t324, v307) h _ (join_imp 51 rfl rfl (mod_cons (j := 11) rfl (fun _ _ h => h) (mod_cons (j := 12) rfl (fun _ _ h => h) mod_nil)) (.cons .here (.cons .here (.cons .here .nil)))))
           ·
            refine w_condM h rfl (fun _ h => ?_) (fun _ h => ?_)
            ·
             refine w_pinN 13 .here rfl (fun o319 hn320 => w_regionD (.v 0 (.v 1 (.v 2 (.v 3 (.v 4 (.v 5 (.v 6 (.t 7 (.t 8 .nil))))))))) moOrd (by kernel_rfl) ?_)
             refine rvm rfl rfl (rd_v rfl (v_fp rfl GFld.f1 fd92_1) (rd_v rfl (v_lpC (R := isv (q311.1.ty)) ty3 rfl (List.Mem.head _) (fun _ _ h => h)) (rvm rfl rfl (rvm rfl rfl ?_))))
             refine rd_v rfl (v_fp rfl GFld.f1 fd92_1) (rd_v rfl (v_lpC (R := isv (q311.1.ty)) ty3 rfl (List.Mem.head _) (fun _ _ h => h)) (cal_inv h fun y321 hy321 h => rd_t rfl rfl (t_call (r10_maker_soft_w hy321) hT (.same rfl (.same rfl .nil)) (.cons .here (.cons .here .nil)) (fun R H' hR => ?_))))
             obtain ⟨rfl, rfl⟩ := hR
             refine cal_inv h fun y322 hy322 h => rd_t rfl rfl (t_call (r10_maker_wrap_w hy322) hT (.same rfl (.same rfl (.same rfl (.same rfl .nil)))) (.cons .here (.cons .here .nil)) (fun R H' hR => ?_))
             obtain ⟨rfl, rfl⟩ := hR
             exact rd_nil (fin_unpinN 13 hn320 rfl (hJ318 _ () h _ (join_imp 11 rfl rfl (mod_cons (j := 13) rfl (fun _ _ h => h) mod_nil) (.cons (.there .here) (.cons (.there .here) (.cons .here (.cons .here .nil)))))))
            ·
             exact w_skip (hJ318 _ () h _ (join_imp 0 rfl rfl (mod_cons (j := 13) rfl (fun _ _ h => h) mod_nil) (.cons (.there .here) (.cons (.there .here) (.cons .here (.cons .here .nil))))))
          ·
           refine rl_condM (j := 126) h rfl (fun g316 h => ?_) (fun g316 h => ?_)
           ·
            exact oK 126 rfl rfl rfl g316 (v_move rfl) (oK 126 rfl rfl rfl g316 (v_not rfl) (oV (v_pick_t rfl g316 rfl) (hJ315 _ () h _ (join_imp 3 rfl rfl (mod_cons (j := 129) rfl (fun _ _ h => h) mod_nil) (.cons .here (.cons .here (.cons .here (.cons .here .nil))))))))
           ·
            exact oP 126 rfl rfl g316 (oP 126 rfl rfl g316 (oV (v_pick_f rfl g316 rfl) (hJ315 _ () h _ (join_imp 3 rfl rfl (mod_cons (j := 129) rfl (fun _ _ h => h) mod_nil) (.cons .here (.cons .here (.cons .here (.cons .here .nil))))))))
         ·
          refine w_condM h rfl (fun _ h => ?_) (fun _ h => ?_)
          ·
           refine w_region (oM rfl (oV (v_fa rfl GFld.f1 fd92_1) (oT (t_loadC (R := isv (y306.1)) ty3 rfl .here (fun _ _ h => h) (oV (v_fa rfl GFld.f4 fd92_4) ?_)))))
           refine oT (t_loadC (R := isv (y265.dflt)) ty46 rfl .here (fun _ _ h => h) (cal_inv h fun y313 hy313 h => oT (t_call (r10_maker_standard_w hy313) hT (.same rfl (.same rfl (.same rfl .nil))) (.cons (.there .here) (.cons (.there .here) .nil)) (fun R H' hR => ?_))))
           obtain ⟨rfl, rfl⟩ := hR
           exact oV (v_fa rfl GFld.f4 fd92_4) (oT (t_storeC (y' := ({ { y265 with ty := y306.1 } with dflt := y313.1 } : GFld)) ty46 rfl rfl (fun _ _ h => h) (.there (.there .here)) rfl (rl_nil (hJ312 _ () h _ (join_imp 7 rfl rfl mod_nil (.cons .here (.cons .here (.cons .here (.cons .here .nil)))))))))
          ·
           exact w_skip (hJ312 _ () h _ (join_imp 0 rfl rfl mod_nil (.cons .here (.cons .here (.cons .here (.cons .here .nil))))))
        ·
         refine rl_condM (j := 110) h rfl (fun g310 h => ?_) (fun g310 h => ?_)
         ·
          exact oK 110 rfl rfl rfl g310 (v_fa rfl GFld.f3 fd92_3) (op_take rfl rfl (dj := 110) rfl g310 (t_loadC (R := isv (y265.has)) ty4 rfl .here (fun _ _ h => h) (oV (v_pick_t rfl g310 rfl) (hJ309 _ () h _ (join_imp 3 rfl rfl (mod_cons (j := 113) rfl (fun _ _ h => h) mod_nil) (.cons .here (.cons .here (.cons .here (.cons .here .nil)))))))))
         ·
          exact oP 110 rfl rfl g310 (oP 110 rfl rfl g310 (oV (v_pick_f rfl g310 rfl) (hJ309 _ () h _ (join_imp 3 rfl rfl (mod_cons (j := 113) rfl (fun _ _ h => h) mod_nil) (.cons .here (.cons .here (.cons .here (.cons .here .nil))))))))
      ·
       refine w_exit (exi_nxt (eL189 _ _ (exi_block (fin_nxt ?_))))
       refine wsr (oM rfl (oV (v_nilCheck rfl) (oV (v_fa rfl pt141_0_2 fd141_2) (oT (t_loadC (R := isv (q188.2.2.e)) ty65 rfl (.there .here) (fun _ _ h => h) ?_)))))
       refine oV (v_eql rfl rfl) (rnf (w_condM h rfl (fun _ h => ?_) (fun _ h => ?_)))
       ·
        refine wsr (oM rfl (oV (v_nilCheck rfl) (oV (v_fa rfl pt141_0_1 fd141_1) (oT (t_loadC (R := vecv g188.2 (q188.2.2.l.length)) ty24 rfl (.there .here) isvV1 ?_)))))
        refine oM rfl (oM rfl (asd_inv h fun q328 h => oV (v_vidx (α := GTyp) sl24 rfl rfl q328.1 q328.2) (oV (v_fv rfl GTyp.f4 fd87_4) ?_)))
        refine cal_inv h fun y329 hy329 h => rl_upd (upd_slot 153 rfl (appv_isv)) (oT (t_vstore ty85 rfl rfl (.there (.there .here)) hy329 (rl_upd (upd_box (y := ((q188.2.2.m, (Vh.mk g188.2 (q188.2.2.l.set a_i.toNat ({ y329 with fields := q188.1 })).length), q188.2.2.e) : (GMod × Vh × Int))) (.there (.there .here)) (fun S => (Cv.pair Cv.id (Cv.pair (Cv.vhe (by first | rfl | simp)) Cv.id)))) ?_)))
        refine rnf (wsr (oM rfl (oM rfl (oV (v_nilCheck rfl) ?_))))
        refine oV (v_fa rfl pt141_0_1 fd141_1) (oT (t_loadC (R := vecv g188.2 ((q188.2.2.l.set a_i.toNat ({ y329 with fields := q188.1 })).length)) ty24 rfl .here isvV1 (oM rfl (asd_inv h fun q330 h => oV (v_vidx (α := GTyp) sl24 rfl rfl q330.1 q330.2) ?_))))
        refine cal_inv h fun y331 hy331 h => oT (t_vload ty87 rfl (.there .here) hy331 (cal_inv h fun y332 hy332 h => oT (t_call (r10_maker_apart_w hy332) hT (.same rfl (.same rfl .nil)) (.cons .here (.cons .here .nil)) (fun R H' hR => ?_))))
        obtain ⟨rfl, rfl⟩ := hR
        refine oV (v_not rfl) (rnf (w_condM h rfl (fun _ h => ?_) (fun _ h => ?_)))
        ·
         refine w_region (oM rfl (cal_inv h fun y333 hy333 h => oT (t_call (r10_maker_fail_w hy333) hT (.same rfl (.same rfl .nil)) (.cons .here (.cons .here .nil)) (fun R H' hR => ?_))))
         obtain ⟨rfl, rfl⟩ := hR
         refine rl_nil (fin_post .nil (.cons .here (.cons .here .nil)) ?_)
         obtain rfl := Option.some.inj h
         exact ⟨g188.2, rfl, rfl⟩
        ·
         refine w_skip (fin_post .nil (.cons .here (.cons .here .nil)) ?_)
         obtain rfl := Option.some.inj h
         exact ⟨g188.2, rfl, rfl⟩
       ·
        refine w_skip (fin_post .nil (.cons (.there .here) (.cons (.there .here) .nil)) ?_)
        obtain rfl := Option.some.inj h
        exact ⟨g188.2, rfl, rfl⟩
     ·
      refine rl_condM (j := 68) h rfl (fun g264 h => ?_) (fun g264 h => ?_)
      ·
       refine oK 68 rfl rfl rfl g264 (v_move rfl) (oK 68 rfl rfl rfl g264 (v_nilCheck rfl) (oK 68 rfl rfl rfl g264 (v_fa rfl pt141_0_2 fd141_2) (op_take rfl rfl (dj := 68) rfl g264 (t_loadC (R := isv (q188.2.2.e)) ty65 rfl (.there .here) (fun _ _ h => h) (oK 68 rfl rfl rfl g264 (v_eql rfl rfl) ?_)))))
       exact oV (v_pick_t rfl g264 rfl) (hJ263 _ () h _ (join_imp 6 rfl rfl (mod_cons (j := 74) rfl (fun _ _ h => h) mod_nil) (.cons .here (.cons .here (.cons .here .nil)))))
      ·
       refine oP 68 rfl rfl g264 (oP 68 rfl rfl g264 (oP 68 rfl rfl g264 (oP 68 rfl rfl g264 (oP 68 rfl rfl g264 ?_))))
       exact oV (v_pick_f rfl g264 rfl) (hJ263 _ () h _ (join_imp 6 rfl rfl (mod_cons (j := 74) rfl (fun _ _ h => h) mod_nil) (.cons .here (.cons .here (.cons .here .nil)))))
    ·
     refine w_condM h rfl (fun _ h => ?_) (fun _ h => ?_)
     ·
      refine w_region (oM rfl (cal_inv h fun y187 hy187 h => oT (t_call (r10_maker_fail_w hy187) hT (.same rfl (.same rfl .nil)) (.cons .here (.cons .here .nil)) (fun R H' hR => ?_))))
      obtain ⟨rfl, rfl⟩ := hR
      exact rl_nil (hJ186 _ () h _ (join_imp 2 rfl rfl mod_nil (.cons .here (.cons .here .nil))))
     ·
      exact w_skip (hJ186 _ () h _ (join_imp 0 rfl rfl mod_nil (.cons .here (.cons .here .nil))))
   ·
    refine rl_condM (j := 56) h rfl (fun g184 h => ?_) (fun g184 h => ?_)
    ·
     exact oK 56 rfl rfl rfl g184 (v_fi rfl GNode.f7 fd167_7 rfl (z := a_n_.more)) (oK 56 rfl rfl rfl g184 (v_loadI ty4 rfl) (oK 56 rfl rfl rfl g184 (v_not rfl) (oV (v_pick_t rfl g184 rfl) (hJ183 _ () h _ (join_imp 4 rfl rfl (mod_cons (j := 60) rfl (fun _ _ h => h) mod_nil) (.cons .here (.cons .here .nil)))))))
    ·
     exact oP 56 rfl rfl g184 (oP 56 rfl rfl g184 (oP 56 rfl rfl g184 (oV (v_pick_f rfl g184 rfl) (hJ183 _ () h _ (join_imp 4 rfl rfl (mod_cons (j := 60) rfl (fun _ _ h => h) mod_nil) (.cons .here (.cons .here .nil)))))))
  ·
   refine rl_condM (j := 50) h rfl (fun g181 h => ?_) (fun g181 h => ?_)
   ·
    refine oK 50 rfl rfl rfl g181 (v_fi rfl GNode.f5 fd167_5 rfl (z := a_n_.fields)) (oK 50 rfl rfl rfl g181 (v_loadI ty85 rfl) (oK 50 rfl rfl rfl g181 (v_ln (l := a_n_.fields) rfl (fun _ _ h => h) sl85) (oK 50 rfl rfl rfl g181 (v_eql rfl rfl) (oV (v_pick_t rfl g181 rfl) ?_))))
    exact hJ180 _ () h _ (join_imp 5 rfl rfl (mod_cons (j := 55) rfl (fun _ _ h => h) mod_nil) (.cons .here (.cons .here .nil)))
   ·
    refine oP 50 rfl rfl g181 (oP 50 rfl rfl g181 (oP 50 rfl rfl g181 (oP 50 rfl rfl g181 (oV (v_pick_f rfl g181 rfl) ?_))))
    exact hJ180 _ () h _ (join_imp 5 rfl rfl (mod_cons (j := 55) rfl (fun _ _ h => h) mod_nil) (.cons .here (.cons .here .nil)))

theorem r10_maker_node_w0 {r10_maker_fields' : GMk → Int → GNode → Int → Option (GMk)} {r10_maker_node' : GMk → Int → Int → Option (Int × GMk)} {r10_maker_made' : GMk → GNode → Int → Option (Int × GMk)} (h_r10_maker_fields : r10_maker_fields_C r10_maker_fields') (h_r10_maker_node : r10_maker_node_C r10_maker_node') (h_r10_maker_made : r10_maker_made_C r10_maker_made') : ∀ {a_x : GMk} {a_k : Int} {a_depth : Int} {b_a_x : Nat} {v_a_x1 : Vt} {r : Int × GMk}, r10_maker_node_F r10_maker_fields' r10_maker_node' r10_maker_made' a_x a_k a_depth = some r → Ctr Tryz.prog 77 [ptrv b_a_x (Fld.id (GMod × Vh × Int)), isv (a_k), isv (a_depth)] [boxE b_a_x ((a_x.m, (Vh.mk v_a_x1 a_x.l.length), a_x.e) : (GMod × Vh × Int)), vecE v_a_x1 (a_x.l : List GTyp)] (fun R H => ∃ u1 : Vt, R = oneOf [isv (r.1)] ∧ H = [boxE b_a_x ((r.2.m, (Vh.mk u1 r.2.l.length), r.2.e)), vecE u1 (r.2.l)]) := by
 intro a_x a_k a_depth b_a_x v_a_x1 r h
 unfold r10_maker_node_F at h
 refine spec_intro Tryz.func77 rfl (by decide +kernel) (by rfl) fun w0 S0 hT => ?_
 refine wsr (oA rfl (rnf (w_seq (wsr ?_))))
 refine oM rfl (oV (v_nilCheck rfl) (oV (v_fa rfl pt141_0_2 fd141_2) (oT (t_loadC (R := isv (a_x.e)) ty65 rfl .here (fun _ _ h => h) (oV (v_neq rfl rfl) ?_)))))
 refine rnf (w_condM h rfl (fun _ h => ?_) (fun _ h => ?_))
 ·
  refine wsr (oA rfl (rnf (w_ret (ret_nxt ?_))))
  refine ret_post (.tmp rfl .nil) (.cons .here (.cons .here .nil)) ?_
  obtain rfl := Option.some.inj h
  exact ⟨v_a_x1, rfl, rfl⟩
 ·
  refine wkf (wsr (oM rfl (oV (v_nilCheck rfl) (oV (v_fa rfl pt141_0_0 fd141_0) ?_))))
  refine oV (v_fa rfl GMod.f4 fd73_4) (oT (t_loadC (R := isv (a_x.m.nodes)) ty71 rfl .here (fun _ _ h => h) (oM rfl (cal_inv h fun y2 hy2 h => oV (v_ix (l := a_x.m.nodes) rfl (fun _ _ h => h) rfl sl71 hy2) ?_))))
  refine oV (v_loadI ty167 rfl) (oT (t_alloc _ ze167 fun b3 => oT (t_storeC (y' := (y2 : GNode)) ty167 rfl rfl (fun _ _ h => h) .here rfl (rl_upd (upd_imm 7 .here rfl) (rnf ?_)))))
  refine wsr (oA rfl (rnf (w_seq (wsr ?_))))
  refine oV (v_fi rfl GNode.f0 fd167_0 rfl (z := y2.kind)) (oV (v_loadI ty3 rfl) (oV (v_eql rfl rfl) (rnf (w_J (ι := Int × GMk) (γ := Vt) (fun q4 g4 => [(8, isv (q4.1))]) (fun q4 g4 => [boxE b_a_x ((q4.2.m, (Vh.mk g4 q4.2.l.length), q4.2.e) : (GMod × Vh × Int)), vecE g4 (q4.2.l : List GTyp)]) (.cons .here (.cons .here .nil)) h (fun q4 g4 h => ?_) (fun J5 h hJ5 => ?_)))))
  ·
   refine w_seq (wsr (oM rfl (oV (v_nilCheck rfl) (oV (v_fa rfl pt141_0_2 fd141_2) ?_))))
   refine oT (t_loadC (R := isv (q4.2.e)) ty65 rfl .here (fun _ _ h => h) (oV (v_eql rfl rfl) (oM rfl (rl_j (jb 56) je .nil h 4 rfl (fun q14 g14 h => ?_) (fun J15 h hJ15 => ?_)))))
   ·
    refine rnf (w_J (ι := GMk) (γ := Unit) (fun q17 g17 => []) (fun q17 g17 => [boxE b_a_x ((q17.m, (Vh.mk g4 q17.l.length), q17.e) : (GMod × Vh × Int)), vecE g4 (q17.l : List GTyp)]) (.cons .here (.cons .here .nil)) h (fun q17 g17 h => ?_) (fun J18 h hJ18 => ?_))
    ·
     refine wsr (oM rfl (oA rfl (rnf (w_ret ?_))))
     refine ret_post (.tmp rfl .nil) (.cons .here (.cons .here .nil)) ?_
     obtain rfl := Option.some.inj h
     exact ⟨g4, rfl, rfl⟩
    ·
     refine w_condM h rfl (fun _ h => ?_) (fun _ h => ?_)
     ·
      refine wsr (oA rfl (rnf (w_seq (w_J (ι := Int × GMk) (γ := Unit) (fun q19 g19 => [(9, isv (q19.1))]) (fun q19 g19 => [boxE b_a_x ((q19.2.m, (Vh.mk g4 q19.2.l.length), q19.2.e) : (GMod × Vh × Int)), vecE g4 (q19.2.l : List GTyp)]) (.cons .here (.cons .here .nil)) h (fun q19 g19 h => ?_) (fun J20 h hJ20 => ?_)))))
      ·
       refine w_region (oM rfl (oM rfl (oV (v_fi rfl GNode.f2 fd167_2 rfl (z := y2.mark)) (oV (v_fi rfl GMark.f1 fd165_1 rfl (z := y2.mark.number)) ?_))))
       refine oV (v_loadI ty3 rfl) (oM rfl (cal_inv h fun y25 hy25 h => oT (t_call (r10_maker_wrap_w hy25) hT (.same rfl (.same rfl (.same rfl (.same rfl .nil)))) (.cons .here (.cons .here .nil)) (fun R H' hR => ?_))))
       obtain ⟨rfl, rfl⟩ := hR
       exact rl_nil (hJ18 _ () h _ (join_imp 9 rfl rfl mod_nil (.cons .here (.cons .here .nil))))
      ·
       refine w_block (wsr (oV (v_fi rfl GNode.f2 fd167_2 rfl (z := y2.mark)) (oV (v_fi rfl GMark.f2 fd165_2 rfl (z := y2.mark.mode)) (oV (v_loadI ty3 rfl) ?_))))
       refine oV (v_eql rfl rfl) (oA rfl (rnf (w_condM h rfl (fun _ h => ?_) (fun _ h => ?_))))
       ·
        exact w_region (oA rfl (rl_nil (fin_block (hJ20 _ () h _ (join_imp 6 rfl rfl (mod_cons (j := 9) rfl (fun _ _ h => h) mod_nil) (.cons .here (.cons .here .nil)))))))
       ·
        refine wsr (oV (v_fi rfl GNode.f2 fd167_2 rfl (z := y2.mark)) (oV (v_fi rfl GMark.f2 fd165_2 rfl (z := y2.mark.mode)) (oV (v_loadI ty3 rfl) (oV (v_eql rfl rfl) ?_))))
        refine oM rfl (rl_j (jb 74) je .nil h 7 rfl (fun q21 g21 h => ?_) (fun J22 h hJ22 => ?_))
        ·
         refine oA rfl (rnf (w_condM h rfl (fun _ h => ?_) (fun _ h => ?_)))
         ·
          refine w_region (oM rfl (oM rfl (cal_inv h fun y24 hy24 h => oT (t_call (r10_maker_soft_w hy24) hT (.same rfl (.same rfl .nil)) (.cons .here (.cons .here .nil)) (fun R H' hR => ?_)))))
          obtain ⟨rfl, rfl⟩ := hR
          exact oA rfl (rl_nil (fin_block (hJ20 _ () h _ (join_imp 16 rfl rfl (mod_cons (j := 9) rfl (fun _ _ h => h) mod_nil) (.cons .here (.cons .here .nil))))))
         ·
          exact w_skip (fin_block (hJ20 _ () h _ (join_imp 12 rfl rfl (mod_cons (j := 9) rfl (fun _ _ h => h) mod_nil) (.cons .here (.cons .here .nil)))))
        ·
         refine rl_condM (j := 67) h rfl (fun g23 h => ?_) (fun g23 h => ?_)
         ·
          refine oK 67 rfl rfl rfl g23 (v_move rfl) (oK 67 rfl rfl rfl g23 (v_nilCheck rfl) (oK 67 rfl rfl rfl g23 (v_fa rfl pt141_0_0 fd141_0) (oK 67 rfl rfl rfl g23 (v_fa rfl GMod.f1 fd73_1) (op_take rfl rfl (dj := 67) rfl g23 (t_loadC (R := isv (q4.2.m.tagging)) ty3 rfl .here (fun _ _ h => h) ?_)))))
          exact oK 67 rfl rfl rfl g23 (v_neq rfl rfl) (oV (v_pick_t rfl g23 rfl) (hJ22 _ () h _ (join_imp 7 rfl rfl (mod_cons (j := 74) rfl (fun _ _ h => h) mod_nil) (.cons .here (.cons .here .nil)))))
         ·
          refine oP 67 rfl rfl g23 (oP 67 rfl rfl g23 (oP 67 rfl rfl g23 (oP 67 rfl rfl g23 (oP 67 rfl rfl g23 ?_))))
          exact oP 67 rfl rfl g23 (oV (v_pick_f rfl g23 rfl) (hJ22 _ () h _ (join_imp 7 rfl rfl (mod_cons (j := 74) rfl (fun _ _ h => h) mod_nil) (.cons .here (.cons .here .nil)))))
     ·
      exact w_skip (hJ18 _ () h _ (join_imp 0 rfl rfl mod_nil (.cons .here (.cons .here .nil))))
   ·
    refine rl_condM (j := 52) h rfl (fun g16 h => ?_) (fun g16 h => ?_)
    ·
     exact oK 52 rfl rfl rfl g16 (v_fi rfl GNode.f2 fd167_2 rfl (z := y2.mark)) (oK 52 rfl rfl rfl g16 (v_fi rfl GMark.f0 fd165_0 rfl (z := y2.mark.has)) (oK 52 rfl rfl rfl g16 (v_loadI ty4 rfl) (oV (v_pick_t rfl g16 rfl) (hJ15 _ () h _ (join_imp 4 rfl rfl (mod_cons (j := 56) rfl (fun _ _ h => h) mod_nil) (.cons .here (.cons .here .nil)))))))
    ·
     exact oP 52 rfl rfl g16 (oP 52 rfl rfl g16 (oP 52 rfl rfl g16 (oV (v_pick_f rfl g16 rfl) (hJ15 _ () h _ (join_imp 4 rfl rfl (mod_cons (j := 56) rfl (fun _ _ h => h) mod_nil) (.cons .here (.cons .here .nil)))))))
  ·
   refine w_condM h rfl (fun _ h => ?_) (fun _ h => ?_)
   ·
    refine w_regionD (.v 0 (.v 1 (.v 2 (.v 3 (.v 4 (.v 6 (.v 7 (.v 8 (.v 10 (.v 11 (.v 15 (.alt 5 (.t 9 (.t 12 (.v 13 (.v 14 (.t 16 (.v 17 .nil)))))) (.t 9 (.alt 5 (.t 12 (.v 13 (.v 14 (.t 16 (.v 17 .nil))))) (.t 12 (.t 5 (.v 13 (.v 14 (.t 16 (.v 17 .nil)))))))))))))))))))) moOrd (by kernel_rfl) ?_
    refine rvm rfl rfl (rvm rfl rfl (rd_v rfl (v_nilCheck rfl) (rd_v rfl (v_fa rfl pt141_0_0 fd141_0) (rd_v rfl (v_fa rfl GMod.f3 fd73_3) ?_))))
    refine rvm rfl rfl (rd_v rfl (v_nilCheck rfl) (rd_v rfl (v_fa rfl pt141_0_0 fd141_0) (rd_v rfl (v_fi rfl GNode.f1 fd167_1 rfl (z := y2.name)) (rd_v rfl (v_loadI ty9 rfl) ?_))))
    refine rvm rfl rfl (cal_inv h fun y6 hy6 h => cal_inv h fun y7 hy7 h => cal_inv h fun y8 hy8 h => rd_two ?_ ?_)
    ·
     refine rd_t rfl rfl (t_loadC (R := isv (a_x.m.types)) ty23 rfl .here (fun _ _ h => h) (rd_t rfl rfl (t_loadC (R := isv (a_x.m)) ty73 rfl .here (fun _ _ h => h) (rd_t rfl rfl (t_call (r07_Find_w hy6) hT (.same rfl (.same rfl .nil)) .nil (fun R H' hR => ?_))))))
     obtain ⟨rfl, rfl⟩ := hR
     refine rd_v rfl (v_ix (l := a_x.m.types) rfl (fun _ _ h => h) rfl sl23 hy7) (rd_v rfl (v_loadI ty3 rfl) (rd_t rfl rfl (t_call (h_r10_maker_node hy8) hT (.same rfl (.same rfl (.same rfl .nil))) (.cons .here (.cons .here .nil)) (fun R H' hR => ?_))))
     obtain ⟨v9, rfl, rfl⟩ := hR
     exact rd_v rfl (v_assign rfl) (rd_nil (hJ5 _ (v9) h _ (join_imp 18 rfl rfl (mod_cons (j := 8) rfl (fun _ _ h => h) mod_nil) (.cons .here (.cons .here .nil)))))
    ·
     refine rd_t rfl rfl (t_loadC (R := isv (a_x.m)) ty73 rfl .here (fun _ _ h => h) (rd_two ?_ ?_))
     ·
      refine rd_t rfl rfl (t_loadC (R := isv (a_x.m.types)) ty23 rfl .here (fun _ _ h => h) (rd_t rfl rfl (t_call (r07_Find_w hy6) hT (.same rfl (.same rfl .nil)) .nil (fun R H' hR => ?_))))
      obtain ⟨rfl, rfl⟩ := hR
      refine rd_v rfl (v_ix (l := a_x.m.types) rfl (fun _ _ h => h) rfl sl23 hy7) (rd_v rfl (v_loadI ty3 rfl) (rd_t rfl rfl (t_call (h_r10_maker_node hy8) hT (.same rfl (.same rfl (.same rfl .nil))) (.cons .here (.cons .here .nil)) (fun R H' hR => ?_))))
      obtain ⟨v10, rfl, rfl⟩ := hR
      exact rd_v rfl (v_assign rfl) (rd_nil (hJ5 _ (v10) h _ (join_imp 18 rfl rfl (mod_cons (j := 8) rfl (fun _ _ h => h) mod_nil) (.cons .here (.cons .here .nil)))))
     ·
      refine rd_t rfl rfl (t_call (r07_Find_w hy6) hT (.same rfl (.same rfl .nil)) .nil (fun R H' hR => ?_))
      obtain ⟨rfl, rfl⟩ := hR
      refine rd_t rfl rfl (t_loadC (R := isv (a_x.m.types)) ty23 rfl .here (fun _ _ h => h) (rd_v rfl (v_ix (l := a_x.m.types) rfl (fun _ _ h => h) rfl sl23 hy7) (rd_v rfl (v_loadI ty3 rfl) (rd_t rfl rfl (t_call (h_r10_maker_node hy8) hT (.same rfl (.same rfl (.same rfl .nil))) (.cons .here (.cons .here .nil)) (fun R H' hR => ?_))))))
      obtain ⟨v11, rfl, rfl⟩ := hR
      exact rd_v rfl (v_assign rfl) (rd_nil (hJ5 _ (v11) h _ (join_imp 18 rfl rfl (mod_cons (j := 8) rfl (fun _ _ h => h) mod_nil) (.cons .here (.cons .here .nil)))))
   ·
    refine w_region (oM rfl (oV (v_loadI ty167 rfl) (oM rfl (cal_inv h fun y12 hy12 h => ?_))))
    refine oT (t_call (h_r10_maker_made hy12) hT (.same rfl (.same rfl (.same rfl .nil))) (.cons .here (.cons .here .nil)) (fun R H' hR => ?_))
    obtain ⟨v13, rfl, rfl⟩ := hR
    exact oA rfl (rl_nil (hJ5 _ (v13) h _ (join_imp 5 rfl rfl (mod_cons (j := 8) rfl (fun _ _ h => h) mod_nil) (.cons .here (.cons .here .nil)))))

theorem r10_maker_made_w0 {r10_maker_fields' : GMk → Int → GNode → Int → Option (GMk)} {r10_maker_node' : GMk → Int → Int → Option (Int × GMk)} {r10_maker_made' : GMk → GNode → Int → Option (Int × GMk)} (h_r10_maker_fields : r10_maker_fields_C r10_maker_fields') (h_r10_maker_node : r10_maker_node_C r10_maker_node') (h_r10_maker_made : r10_maker_made_C r10_maker_made') : ∀ {a_x : GMk} {a_n_ : GNode} {a_depth : Int} {b_a_x : Nat} {v_a_x1 : Vt} {r : Int × GMk}, r10_maker_made_F r10_maker_fields' r10_maker_node' r10_maker_made' a_x a_n_ a_depth = some r → Ctr Tryz.prog 113 [ptrv b_a_x (Fld.id (GMod × Vh × Int)), isv (a_n_), isv (a_depth)] [boxE b_a_x ((a_x.m, (Vh.mk v_a_x1 a_x.l.length), a_x.e) : (GMod × Vh × Int)), vecE v_a_x1 (a_x.l : List GTyp)] (fun R H => ∃ u1 : Vt, R = oneOf [isv (r.1)] ∧ H = [boxE b_a_x ((r.2.m, (Vh.mk u1 r.2.l.length), r.2.e)), vecE u1 (r.2.l)]) := by
 intro a_x a_n_ a_depth b_a_x v_a_x1 r h
 unfold r10_maker_made_F at h
 refine spec_intro Tryz.func113 rfl (by decide +kernel) (by rfl) fun w0 S0 hT => ?_
 refine wsr (oT (t_boxIC (y := a_n_) rfl (fun _ _ h => h) (oA rfl (rnf (w_seq ?_)))))
 refine wsr (oM rfl (oV (v_gtr rfl rfl) (oM rfl (rl_j (jb 20) je .nil h 7 rfl (fun q2 g2 h => ?_) (fun J3 h hJ3 => ?_)))))
 ·
  refine rnf (w_condM h rfl (fun _ h => ?_) (fun _ h => ?_))
  ·
   refine wsr (oM rfl (cal_inv h fun y5 hy5 h => oT (t_call (r10_maker_fail_w hy5) hT (.same rfl (.same rfl .nil)) (.cons .here (.cons .here .nil)) (fun R H' hR => ?_))))
   obtain ⟨rfl, rfl⟩ := hR
   refine rnf (wsr (oA rfl (rnf (w_ret ?_))))
   refine ret_nxt (ret_post (.tmp rfl .nil) (.cons .here (.cons .here .nil)) ?_)
   obtain rfl := Option.some.inj h
   exact ⟨v_a_x1, rfl, rfl⟩
  ·
   refine wkf (wsr (oM rfl (oV (v_nilCheck rfl) (oV (v_fa rfl pt141_0_1 fd141_1) ?_))))
   refine oT (t_loadC (R := vecv v_a_x1 (a_x.l.length)) ty24 rfl .here isvV1 (oV (v_vlen sl24 rfl) (oA rfl (rnf (wsr ?_)))))
   refine oV (v_fi rfl GNode.f0 fd167_0 rfl (z := a_n_.kind)) (oV (v_loadI ty3 rfl) (oV (v_fi rfl GNode.f3 fd167_3 rfl (z := a_n_.con)) (oV (v_loadI ty83 rfl) (oV (v_fi rfl GNode.f6 fd167_6 rfl (z := a_n_.root)) ?_))))
   refine oV (v_loadI ty3 rfl) (oV (v_fi rfl GNode.f7 fd167_7 rfl (z := a_n_.more)) (oV (v_loadI ty4 rfl) (oV (v_build (z := (GTyp.mk a_n_.kind ([] : (List Tag)) a_n_.con ([] : (List GItem)) ([] : (List GFld)) a_n_.root a_n_.more (0 : Int))) rfl bu87 ze87 (.cons GTyp.f0 fd87_0 rfl (fun _ _ h => h) (.cons GTyp.f2 fd87_2 rfl (fun _ _ h => h) (.cons GTyp.f5 fd87_5 rfl (fun _ _ h => h) (.cons GTyp.f6 fd87_6 rfl (fun _ _ h => h) .nil))))) (oT (t_alloc _ ze87 fun b6 => ?_)))))
   refine oT (t_storeC (y' := ((GTyp.mk a_n_.kind ([] : (List Tag)) a_n_.con ([] : (List GItem)) ([] : (List GFld)) a_n_.root a_n_.more (0 : Int)) : GTyp)) ty87 rfl rfl (fun _ _ h => h) .here rfl (rnf (w_seq (wsr (oV (v_fi rfl GNode.f0 fd167_0 rfl (z := a_n_.kind)) ?_)))))
   refine oV (v_loadI ty3 rfl) (oV (v_neq rfl rfl) (rnf (w_J (ι := GTyp) (γ := Unit) (fun q7 g7 => []) (fun q7 g7 => [boxE b6 (q7 : GTyp)]) (.cons .here .nil) h (fun q7 g7 h => ?_) (fun J8 h hJ8 => ?_))))
   ·
    refine w_seq (w_J (ι := GMk) (γ := Vt) (fun q11 g11 => [(8, anyv)]) (fun q11 g11 => [boxE b_a_x ((q11.m, (Vh.mk g11 q11.l.length), q11.e) : (GMod × Vh × Int)), vecE g11 (q11.l : List GTyp)]) (.cons (.there .here) (.cons (.there .here) .nil)) h (fun q11 g11 h => ?_) (fun J12 h hJ12 => ?_))
    ·
     refine w_seq (wsr (oV (v_fi rfl GNode.f0 fd167_0 rfl (z := a_n_.kind)) (oV (v_loadI ty3 rfl) (rnf ?_))))
     refine w_J (ι := GMk) (γ := Vt) (fun q20 g20 => []) (fun q20 g20 => [boxE b_a_x ((q20.m, (Vh.mk g20 q20.l.length), q20.e) : (GMod × Vh × Int)), vecE g20 (q20.l : List GTyp)]) (.cons .here (.cons .here .nil)) h (fun q20 g20 h => ?_) (fun J21 h hJ21 => ?_)
     ·
      refine wsr (oM rfl (oA rfl (rnf (w_ret ?_))))
      refine ret_post (.tmp rfl .nil) (.cons .here (.cons .here .nil)) ?_
      obtain rfl := Option.some.inj h
      exact ⟨g20, rfl, rfl⟩
     ·
      refine w_block (w_seq (wsr (oV (v_eql rfl rfl) (oA rfl ?_))))
      refine rnf (w_J (jb 57) je .nil h (fun q22 g22 h => ?_) (fun J23 h hJ23 => ?_))
      ·
       refine w_condM h rfl (fun _ h => ?_) (fun _ h => ?_)
       ·
        refine wsr (oV (v_fi rfl GNode.f3 fd167_3 rfl (z := a_n_.con)) (oV (v_loadI ty83 rfl) (oV (v_fi rfl GNode.f0 fd167_0 rfl (z := a_n_.kind)) (oV (v_loadI ty3 rfl) ?_))))
        refine oV (v_neq rfl rfl) (cal_inv h fun y24 hy24 h => oT (t_call (r08_Check_w hy24) hT (.same rfl (.same rfl .nil)) .nil (fun R H' hR => ?_)))
        obtain ⟨rfl, rfl⟩ := hR
        refine oA rfl (rnf (w_seq (wsr (oM rfl ?_))))
        refine oV (v_neq rfl rfl) (rnf (w_J (ι := GMk) (γ := Unit) (fun q25 g25 => []) (fun q25 g25 => [boxE b_a_x ((q25.m, (Vh.mk g11 q25.l.length), q25.e) : (GMod × Vh × Int)), vecE g11 (q25.l : List GTyp)]) (.cons .here (.cons .here .nil)) h (fun q25 g25 h => ?_) (fun J26 h hJ26 => ?_)))
        ·
         refine wsr (oV (v_fi rfl GNode.f0 fd167_0 rfl (z := a_n_.kind)) (oV (v_loadI ty3 rfl) (oV (v_eql rfl rfl) (rnf ?_))))
         refine w_condM h rfl (fun _ h => ?_) (fun _ h => ?_)
         ·
          refine wsr (oM rfl (oV (v_fi rfl GNode.f8 fd167_8 rfl (z := a_n_.of)) (oV (v_loadI ty3 rfl) (oM rfl ?_))))
          refine ck_inv h fun q28 h => oV (v_add rfl rfl q28) (cal_inv h fun y29 hy29 h => oT (t_call (h_r10_maker_node hy29) hT (.same rfl (.same rfl (.same rfl .nil))) (.cons .here (.cons .here .nil)) (fun R H' hR => ?_)))
          obtain ⟨v30, rfl, rfl⟩ := hR
          refine oA rfl (rnf (wsr (oM rfl (oV (v_nilCheck rfl) ?_))))
          refine oV (v_fa rfl pt141_0_2 fd141_2) (oT (t_loadC (R := isv (y29.2.e)) ty65 rfl .here (fun _ _ h => h) (oV (v_eql rfl rfl) (rnf (w_condM h rfl (fun _ h => ?_) (fun _ h => ?_))))))
          ·
           refine w_region (oM rfl (oV (v_nilCheck rfl) (oV (v_fa rfl pt141_0_1 fd141_1) (oT (t_loadC (R := vecv v30 (y29.2.l.length)) ty24 rfl .here isvV1 ?_)))))
           refine oM rfl (oM rfl (asd_inv h fun q31 h => oV (v_vidx (α := GTyp) sl24 rfl rfl q31.1 q31.2) (oV (v_fv rfl GTyp.f7 fd87_7) ?_)))
           refine cal_inv h fun y32 hy32 h => oT (t_vstore ty3 rfl rfl (.there .here) hy32 (rl_upd (upd_box (y := ((y29.2.m, (Vh.mk v30 (y29.2.l.set (((a_x.l.length : Nat) : Int).toNat) ({ y32 with of := y29.1 })).length), y29.2.e) : (GMod × Vh × Int))) (.there .here) (fun S => (Cv.pair Cv.id (Cv.pair (Cv.vhe (by first | rfl | simp)) Cv.id)))) ?_))
           exact rl_nil (fin_block (hJ21 _ (v30) h _ (join_imp 35 rfl rfl mod_nil (.cons .here (.cons .here (.cons .here .nil))))))
          ·
           exact w_skip (fin_block (hJ21 _ (v30) h _ (join_imp 27 rfl rfl mod_nil (.cons .here (.cons .here (.cons .here .nil))))))
         ·
          exact w_skip (fin_block (hJ21 _ (g11) h _ (join_imp 15 rfl rfl mod_nil (.cons .here (.cons .here (.cons .here .nil))))))
        ·
         refine w_condM h rfl (fun _ h => ?_) (fun _ h => ?_)
         ·
          refine w_region (oM rfl (oM rfl (cal_inv h fun y27 hy27 h => oT (t_call (r10_maker_fail_w hy27) hT (.same rfl (.same rfl .nil)) (.cons .here (.cons .here .nil)) (fun R H' hR => ?_)))))
          obtain ⟨rfl, rfl⟩ := hR
          exact rl_nil (hJ26 _ () h _ (join_imp 3 rfl rfl mod_nil (.cons .here (.cons .here (.cons .here .nil)))))
         ·
          exact w_skip (hJ26 _ () h _ (join_imp 0 rfl rfl mod_nil (.cons .here (.cons .here (.cons .here .nil)))))
       ·
        refine wsr (oV (v_eql rfl rfl) (oA rfl (rnf (w_condM h rfl (fun _ h => ?_) (fun _ h => ?_)))))
        ·
         refine w_regionD (.v 0 (.v 1 (.v 2 (.v 4 (.v 5 (.v 6 (.alt 3 (.t 7 (.v 8 (.v 9 (.t 10 .nil)))) (.t 7 (.t 3 (.v 8 (.v 9 (.t 10 .nil)))))))))))) moOrd (by kernel_rfl) ?_
         refine rvm rfl rfl (rd_v rfl (v_nilCheck rfl) (rd_v rfl (v_fa rfl pt141_0_1 fd141_1) (rvm rfl rfl (rvm rfl rfl ?_))))
         refine rd_v rfl (v_loadI ty167 rfl) (cal_inv h fun y33 hy33 h => asd_inv h fun q34 h => asd_inv h fun q35 h => cal_inv h fun y36 hy36 h => ?_)
         refine rd_two ?_ ?_
         ·
          refine rd_t rfl rfl (t_loadC (R := vecv g11 (q11.l.length)) ty24 rfl .here isvV1 (rd_t rfl rfl (t_call (r10_maker_items_w hy33) hT (.same rfl (.same rfl .nil)) (.cons .here (.cons .here .nil)) (fun R H' hR => ?_))))
          obtain ⟨rfl, rfl⟩ := hR
          refine rd_v rfl (v_vidx (α := GTyp) sl24 rfl rfl q35.1 q35.2) (rd_v rfl (v_fv rfl GTyp.f3 fd87_3) (rd_t rfl rfl (t_vstore ty84 rfl rfl (.there .here) hy36 (rd_upd (upd_box (y := ((y33.2.m, (Vh.mk g11 (y33.2.l.set (((a_x.l.length : Nat) : Int).toNat) ({ y36 with items := y33.1 })).length), y33.2.e) : (GMod × Vh × Int))) (.there .here) (fun S => (Cv.pair Cv.id (Cv.pair (Cv.vhe (by first | rfl | simp)) Cv.id)))) ?_))))
          exact rd_nil (fin_block (hJ21 _ (g11) h _ (join_imp 15 rfl rfl mod_nil (.cons .here (.cons .here (.cons .here .nil))))))
         ·
          refine rd_t rfl rfl (t_call (r10_maker_items_w hy33) hT (.same rfl (.same rfl .nil)) (.cons .here (.cons .here .nil)) (fun R H' hR => ?_))
          obtain ⟨rfl, rfl⟩ := hR
          refine rd_t rfl rfl (t_loadC (R := vecv g11 (y33.2.l.length)) ty24 rfl .here isvV1 (rd_v rfl (v_vidx (α := GTyp) sl24 rfl rfl (by omega) (by omega)) ?_))
          refine rd_v rfl (v_fv rfl GTyp.f3 fd87_3) (rd_t rfl rfl (t_vstore ty84 rfl rfl (.there .here) hy36 (rd_upd (upd_box (y := ((y33.2.m, (Vh.mk g11 (y33.2.l.set (((a_x.l.length : Nat) : Int).toNat) ({ y36 with items := y33.1 })).length), y33.2.e) : (GMod × Vh × Int))) (.there .here) (fun S => (Cv.pair Cv.id (Cv.pair (Cv.vhe (by first | rfl | simp)) Cv.id)))) ?_)))
          exact rd_nil (fin_block (hJ21 _ (g11) h _ (join_imp 15 rfl rfl mod_nil (.cons .here (.cons .here (.cons .here .nil))))))
        ·
         refine w_seq (wsr (oV (v_eql rfl rfl) (oA rfl (rnf ?_))))
         refine w_J (jb 107) je .nil h (fun q37 g37 h => ?_) (fun J38 h hJ38 => ?_)
         ·
          refine w_condM h rfl (fun _ h => ?_) (fun _ h => ?_)
          ·
           refine w_region (oM rfl (oM rfl (oV (v_loadI ty167 rfl) (oM rfl ?_))))
           refine cal_inv h fun y39 hy39 h => oT (t_call (h_r10_maker_fields hy39) hT (.same rfl (.same rfl (.same rfl (.same rfl .nil)))) (.cons .here (.cons .here .nil)) (fun R H' hR => ?_))
           obtain ⟨v40, rfl, rfl⟩ := hR
           exact rl_nil (fin_block (hJ21 _ (v40) h _ (join_imp 13 rfl rfl mod_nil (.cons .here (.cons .here (.cons .here .nil))))))
          ·
           exact w_skip (fin_block (hJ21 _ (g11) h _ (join_imp 8 rfl rfl mod_nil (.cons .here (.cons .here (.cons .here .nil))))))
         ·
          refine w_condM h rfl (fun _ h => ?_) (fun _ h => ?_)
          ·
           exact w_skip (hJ38 _ () h _ (join_imp 0 rfl rfl (mod_cons (j := 107) rfl (fun _ _ h => h) mod_nil) (.cons .here (.cons .here (.cons .here .nil)))))
          ·
           refine wsr (oV (v_eql rfl rfl) (oA rfl (rnf (w_condM h rfl (fun _ h => ?_) (fun _ h => ?_)))))
           ·
            exact w_skip (hJ38 _ () h _ (join_imp 2 rfl rfl (mod_cons (j := 107) rfl (fun _ _ h => h) mod_nil) (.cons .here (.cons .here (.cons .here .nil)))))
           ·
            exact w_region (oV (v_eql rfl rfl) (oA rfl (rl_nil (hJ38 _ () h _ (join_imp 4 rfl rfl (mod_cons (j := 107) rfl (fun _ _ h => h) mod_nil) (.cons .here (.cons .here (.cons .here .nil))))))))
      ·
       refine w_condM h rfl (fun _ h => ?_) (fun _ h => ?_)
       ·
        exact w_skip (hJ23 _ () h _ (join_imp 0 rfl rfl (mod_cons (j := 57) rfl (fun _ _ h => h) mod_nil) (.cons .here (.cons .here (.cons .here .nil)))))
       ·
        refine wsr (oV (v_eql rfl rfl) (oA rfl (rnf (w_condM h rfl (fun _ h => ?_) (fun _ h => ?_)))))
        ·
         exact w_skip (hJ23 _ () h _ (join_imp 2 rfl rfl (mod_cons (j := 57) rfl (fun _ _ h => h) mod_nil) (.cons .here (.cons .here (.cons .here .nil)))))
        ·
         refine wsr (oV (v_eql rfl rfl) (oA rfl (rnf (w_condM h rfl (fun _ h => ?_) (fun _ h => ?_)))))
         ·
          exact w_skip (hJ23 _ () h _ (join_imp 4 rfl rfl (mod_cons (j := 57) rfl (fun _ _ h => h) mod_nil) (.cons .here (.cons .here (.cons .here .nil)))))
         ·
          exact w_region (oV (v_eql rfl rfl) (oA rfl (rl_nil (hJ23 _ () h _ (join_imp 6 rfl rfl (mod_cons (j := 57) rfl (fun _ _ h => h) mod_nil) (.cons .here (.cons .here (.cons .here .nil))))))))
    ·
     refine w_pinN 8 .here rfl (fun o13 hn14 => w_regionD (.v 0 (.v 1 (.v 2 (.v 3 (.v 5 (.alt 4 (.t 6 (.t 7 (.v 8 (.v 9 (.t 10 .nil))))) (.t 6 (.t 4 (.t 7 (.v 8 (.v 9 (.t 10 .nil)))))))))))) moOrd (by kernel_rfl) ?_)
     refine rvm rfl rfl (rvm rfl rfl (rd_v rfl (v_nilCheck rfl) (rd_v rfl (v_fa rfl pt141_0_1 fd141_1) (rd_v rfl (v_lpC (R := isv (q7)) ty87 rfl (List.Mem.head _) (fun _ _ h => h)) ?_))))
     refine asr_inv h fun q17 h => rd_two ?_ ?_
     ·
      refine rd_t rfl rfl (t_loadC (R := vecv v_a_x1 (a_x.l.length)) ty24 rfl .here isvV1 (rd_t rfl rfl (t_buildSlice (l := ([q7] : (List GTyp))) el24 (.cons rfl (fun _ _ h => h) .nil) rfl rfl (rd_t rfl rfl (t_vappF (m := ([q7] : (List GTyp))) ap24_24 rfl rfl appv_isv (.there .here) (by first | rfl | simp) q17 fun v16 => ?_)))))
      refine rd_v rfl (v_nilCheck rfl) (rd_v rfl (v_fa rfl pt141_0_1 fd141_1) (rd_t rfl rfl (t_storeC (y' := ((a_x.m, (Vh.mk v16 (a_x.l ++ ([q7] : (List GTyp))).length), a_x.e) : (GMod × Vh × Int))) ty24 rfl rfl isvV2 (.there .here) rfl (rd_nil (fin_unpinN 8 hn14 rfl ?_)))))
      exact hJ12 _ (v16) h _ (join_imp 12 rfl rfl (mod_cons (j := 8) rfl (fun _ _ _ => trivial) mod_nil) (.cons (.there .here) (.cons (.there .here) (.cons .here .nil))))
     ·
      refine rd_t rfl rfl (t_buildSlice (l := ([q7] : (List GTyp))) el24 (.cons rfl (fun _ _ h => h) .nil) rfl rfl (rd_t rfl rfl (t_loadC (R := vecv v_a_x1 (a_x.l.length)) ty24 rfl .here isvV1 (rd_t rfl rfl (t_vappF (m := ([q7] : (List GTyp))) ap24_24 rfl rfl appv_isv (.there .here) (by first | rfl | simp) q17 fun v19 => ?_)))))
      refine rd_v rfl (v_nilCheck rfl) (rd_v rfl (v_fa rfl pt141_0_1 fd141_1) (rd_t rfl rfl (t_storeC (y' := ((a_x.m, (Vh.mk v19 (a_x.l ++ ([q7] : (List GTyp))).length), a_x.e) : (GMod × Vh × Int))) ty24 rfl rfl isvV2 (.there .here) rfl (rd_nil (fin_unpinN 8 hn14 rfl ?_)))))
      exact hJ12 _ (v19) h _ (join_imp 12 rfl rfl (mod_cons (j := 8) rfl (fun _ _ _ => trivial) mod_nil) (.cons (.there .here) (.cons (.there .here) (.cons .here .nil))))
   ·
    refine w_condM h rfl (fun _ h => ?_) (fun _ h => ?_)
    ·
     refine w_region (oV (v_fi rfl GNode.f0 fd167_0 rfl (z := a_n_.kind)) (oV (v_loadI ty3 rfl) (cal_inv h fun y9 hy9 h => oT (t_call (r09_Universal_w hy9) hT (.same rfl .nil) .nil (fun R H' hR => ?_)))))
     obtain ⟨rfl, rfl⟩ := hR
     exact oT (t_buildSlice (l := ([y9] : (List Tag))) el78 (.cons rfl (fun _ _ h => h) .nil) rfl rfl (oV (v_fa rfl GTyp.f1 fd87_1) (oT (t_storeC (y' := ((GTyp.mk a_n_.kind ([y9] : (List Tag)) a_n_.con ([] : (List GItem)) ([] : (List GFld)) a_n_.root a_n_.more (0 : Int)) : GTyp)) ty78 rfl rfl appv_isv .here rfl (rl_nil (hJ8 _ () h _ (join_imp 5 rfl rfl mod_nil (.cons .here (.cons .here (.cons .here .nil))))))))))
    ·
     exact w_skip (hJ8 _ () h _ (join_imp 0 rfl rfl mod_nil (.cons .here (.cons .here (.cons .here .nil)))))
 ·
  refine rl_condM (j := 13) h rfl (fun g4 h => ?_) (fun g4 h => ?_)
  ·
   refine oP 13 rfl rfl g4 (oP 13 rfl rfl g4 (oP 13 rfl rfl g4 (oP 13 rfl rfl g4 (oP 13 rfl rfl g4 ?_))))
   exact oP 13 rfl rfl g4 (oV (v_pick_t rfl g4 rfl) (hJ3 _ () h _ (join_imp 7 rfl rfl (mod_cons (j := 20) rfl (fun _ _ h => h) mod_nil) (.cons .here (.cons .here .nil)))))
  ·
   refine oK 13 rfl rfl rfl g4 (v_move rfl) (oK 13 rfl rfl rfl g4 (v_nilCheck rfl) (oK 13 rfl rfl rfl g4 (v_fa rfl pt141_0_1 fd141_1) (op_take rfl rfl (dj := 13) rfl g4 (t_loadC (R := vecv v_a_x1 (a_x.l.length)) ty24 rfl .here isvV1 (oK 13 rfl rfl rfl g4 (v_vlen sl24 rfl) ?_)))))
   exact oK 13 rfl rfl rfl g4 (v_geq rfl rfl) (oV (v_pick_f rfl g4 rfl) (hJ3 _ () h _ (join_imp 7 rfl rfl (mod_cons (j := 20) rfl (fun _ _ h => h) mod_nil) (.cons .here (.cons .here .nil)))))

theorem r10_maker_fields_grp_w : ∀ n, r10_maker_fields_C (r10_maker_fields n) ∧ r10_maker_node_C (r10_maker_node n) ∧ r10_maker_made_C (r10_maker_made n)
 | 0 => ⟨fun h => (by cases h), fun h => (by cases h), fun h => (by cases h)⟩
 | n + 1 => by
  obtain ⟨h0, h1, h2⟩ := r10_maker_fields_grp_w n
  exact ⟨r10_maker_fields_w0 h0 h1 h2, r10_maker_node_w0 h0 h1 h2, r10_maker_made_w0 h0 h1 h2⟩
theorem r10_maker_node_w (n : Nat) : r10_maker_node_C (r10_maker_node n) := (r10_maker_fields_grp_w n).2.1
theorem r10_Make_w : ∀ {a_m : GMod} {r : GTab × Int × Int}, r10_Make a_m = some r → Ctr Tryz.prog 40 [isv (a_m)] [] (fun R H => R = oneOf [isv (r.1), isv (r.2.1), isv (r.2.2)] ∧ H = []) := by
 intro a_m r h
 unfold r10_Make at h
 refine spec_intro Tryz.func40 rfl (by decide +kernel) (by rfl) fun w0 S0 hT => ?_
 refine wsr (oT (t_boxIC (y := a_m) rfl (fun _ _ h => h) (oT (t_alloc _ ze26 fun b1 => oA rfl (oA rfl ?_)))))
 refine rnf (wsr (oV (v_loadI ty73 rfl) (cal_inv h fun y2 hy2 h => oT (t_call (r07_Order_w hy2) hT (.same rfl .nil) .nil (fun R H' hR => ?_)))))
 obtain ⟨rfl, rfl⟩ := hR
 refine oM rfl (oV (v_extract rfl rfl) (oV (v_extract rfl rfl) (oV (v_extract rfl rfl) (oA rfl ?_))))
 refine oA rfl (oA rfl (rnf (w_seq (wsr ?_))))
 refine oM rfl (oV (v_neq rfl rfl) (rnf (w_condM h rfl (fun _ h => ?_) (fun _ h => ?_))))
 ·
  refine wsr (oV (v_build (z := (GTab.mk (Str.mk []) ([] : (List Str)) ([] : (List Int)) ([] : (List GTyp)))) rfl bu26 ze26 .nil) (oM rfl (oM rfl (oT (t_storeC (y' := ((GTab.mk (Str.mk []) ([] : (List Str)) ([] : (List Int)) ([] : (List GTyp))) : GTab)) ty26 rfl rfl (fun _ _ h => h) .here rfl ?_)))))
  refine oA rfl (oA rfl (rnf (w_ret (ret_nxt ?_))))
  refine ret_post (.cell rfl .here ty26 (.tmp rfl (.tmp rfl .nil))) .nil ?_
  obtain rfl := Option.some.inj h
  exact ⟨rfl, rfl⟩
 ·
  refine wkf (wsr (oV (v_loadI ty73 rfl) (oV (v_build (z := ((a_m, (Vh.mk none 0), (0 : Int)) : (GMod × Vh × Int))) rfl bu141 zt141_2 (.cons pt141_0_0 fd141_0 rfl (fun _ _ h => h) .nil)) (oT (t_boxC (y := ((a_m, (Vh.mk none 0), (0 : Int)) : (GMod × Vh × Int))) rfl (fun _ _ h => h) fun b3 => ?_)))))
  refine rl_upd (upd_vec (α := GTyp)) (oA rfl (rnf (w_seq (w_J (ι := GTab) (γ := Nat × Tok) (fun q5 g5 => [(9, ptrv g5.1 (Fld.id (Str × (List Str) × (TList Int) × (List GTyp))))]) (fun q5 g5 => [boxE g5.1 ((q5.name, q5.names, (TList.mk g5.2 q5.roots), q5.types) : (Str × (List Str) × (TList Int) × (List GTyp))), tokE g5.2]) .nil h (fun q5 g5 h => ?_) (fun J6 h hJ6 => ?_)))))
  ·
   refine w_seq (wsr (oA rfl (rnf (w_block ?_))))
   refine w_lp (ι := Int × GTab × GMk) (γ := Tok × Vt) (fun q16 g16 => [(10, isv (q16.1))]) (fun q16 g16 => [boxE g5.1 ((q16.2.1.name, q16.2.1.names, (TList.mk g16.1 q16.2.1.roots), q16.2.1.types) : (Str × (List Str) × (TList Int) × (List GTyp))), tokE g16.1, boxE b3 ((q16.2.2.m, (Vh.mk g16.2 q16.2.2.l.length), q16.2.2.e) : (GMod × Vh × Int)), vecE g16.2 (q16.2.2.l : List GTyp)]) h (g5.2, none) (mod_cons (j := 10) rfl (fun _ _ h => h) mod_nil) (.cons .here (.cons .here (.cons (.there .here) (.cons .here .nil)))) (fun L17 q16 g16 Q50 h hL17 eL17 rL17 => w_seq (wsr (oM rfl (oV (v_fi rfl GMod.f2 fd73_2 rfl (z := a_m.names)) ?_))))
   refine oV (v_loadI ty22 rfl) (oV (v_ln (l := a_m.names) rfl (fun _ _ h => h) sl22) (oV (v_lss rfl rfl) (rnf (w_condM h rfl (fun _ h => ?_) (fun _ h => ?_)))))
   ·
    refine wkf (w_seq (w_block (w_seq (w_J (ι := GTab × GMk) (γ := Tok × Vt) (fun q34 g34 => []) (fun q34 g34 => [boxE g5.1 ((q34.1.name, q34.1.names, (TList.mk g34.1 q34.1.roots), q34.1.types) : (Str × (List Str) × (TList Int) × (List GTyp))), tokE g34.1, boxE b3 ((q34.2.m, (Vh.mk g34.2 q34.2.l.length), q34.2.e) : (GMod × Vh × Int)), vecE g34.2 (q34.2.l : List GTyp)]) (.cons .here (.cons (.there .here) (.cons .here (.cons .here .nil)))) h (fun q34 g34 h => ?_) (fun J35 h hJ35 => ?_)))))
    ·
     refine wsr (oM rfl (oV (v_nilCheck rfl) (oV (v_fa rfl pt141_0_2 fd141_2) (oT (t_loadC (R := isv (q34.2.e)) ty65 rfl (.there (.there .here)) (fun _ _ h => h) ?_)))))
     refine oV (v_neq rfl rfl) (rnf (w_condM h rfl (fun _ h => ?_) (fun _ h => ?_)))
     ·
      refine w_seq (w_pinN 8 (.there (.there .here)) rfl (fun o47 hn48 => w_regionD (.v 0 (.v 1 (.v 2 (.v 3 (.v 4 (.v 5 (.t 6 (.v 7 (.v 8 .nil))))))))) moOrd (by kernel_rfl) ?_))
      refine rd_v rfl (v_build (z := (GTab.mk (Str.mk []) ([] : (List Str)) ([] : (List Int)) ([] : (List GTyp)))) rfl bu26 ze26 .nil) (rvm rfl rfl (rvm rfl rfl (rd_v rfl (v_nilCheckP rfl) (rd_v rfl (v_fp rfl pt141_0_2 fd141_2) ?_))))
      refine rd_v rfl (v_lpC (R := isv (q34.2.e)) ty65 rfl (List.Mem.head _) (fun _ _ h => h)) (rd_t rfl rfl (t_storeC (y' := ((GTab.mk (Str.mk []) ([] : (List Str)) ([] : (List Int)) ([] : (List GTyp))) : GTab)) ty26 rfl rfl (fun _ _ h => h) (.there (.there (.there .here))) rfl (rd_v rfl (v_assign rfl) (rd_v rfl (v_assign rfl) (rd_nil ?_)))))
      refine fin_unpinN 8 hn48 rfl (fin_nxt (w_ret (ret_block (ret_nxt ?_))))
      refine rL17 _ (ret_block (ret_nxt (ret_post (.cell rfl (.there .here) ty26 (.tmp rfl (.tmp rfl .nil))) .nil ?_)))
      obtain rfl := Option.some.inj h
      exact ⟨rfl, rfl⟩
     ·
      refine w_skip (fin_block (fin_nxt (w_region (oM rfl ?_))))
      exact ck_inv h fun q49 h => oV (v_add rfl rfl q49) (oA rfl (rl_nil (hL17 _ (g34.1, g34.2) h _ (join_imp 14 rfl rfl (mod_cons (j := 10) rfl (fun _ _ h => h) mod_nil) (.cons .here (.cons .here (.cons .here (.cons .here (.cons .here .nil)))))))))
    ·
     refine w_regionD (.v 0 (.v 2 (.v 3 (.v 4 (.v 5 (.v 6 (.v 7 (.alt 1 (.t 8 (.t 9 (.t 10 (.v 11 (.t 12 .nil))))) (.t 8 (.alt 1 (.t 9 (.t 10 (.v 11 (.t 12 .nil)))) (.t 9 (.t 1 (.t 10 (.v 11 (.t 12 .nil))))))))))))))) moOrd (by kernel_rfl) ?_
     refine rd_v rfl (v_fa rfl pt26_0_2 fd26_2) (rvm rfl rfl (rd_v rfl (v_fi rfl GMod.f3 fd73_3 rfl (z := a_m.types)) (rd_v rfl (v_loadI ty23 rfl) (rvm rfl rfl ?_))))
     refine cal_inv h fun y36 hy36 h => rd_v rfl (v_ix (l := a_m.types) rfl (fun _ _ h => h) rfl sl23 hy36) (rd_v rfl (v_loadI ty3 rfl) (cal_inv h fun y37 hy37 h => asr_inv h fun q41 h => ?_))
     refine rd_two ?_ ?_
     ·
      refine rd_t rfl rfl (t_loadC (R := appv g16.1 (q16.2.1.roots)) ty23 rfl .here isvT1 (rd_t rfl rfl (t_call (r10_maker_node_w fuel hy37) hT (.same rfl (.same rfl (.same rfl .nil))) (.cons (.there (.there .here)) (.cons (.there (.there .here)) .nil)) (fun R H' hR => ?_))))
      obtain ⟨v38, rfl, rfl⟩ := hR
      refine rd_t rfl rfl (t_buildSlice (l := ([y37.1] : (List Int))) el23 (.cons rfl (fun _ _ h => h) .nil) rfl rfl (rd_t rfl rfl (t_appC (l := q16.2.1.roots) (m := ([y37.1] : (List Int))) ap23_23 rfl (fun _ _ h => h) rfl appv_isv (.there (.there (.there .here))) q41 fun t40 => rd_v rfl (v_fa rfl pt26_0_2 fd26_2) (rd_t rfl rfl (t_storeC (y' := ((q16.2.1.name, q16.2.1.names, (TList.mk t40 (q16.2.1.roots ++ ([y37.1] : (List Int)))), q16.2.1.types) : (Str × (List Str) × (TList Int) × (List GTyp)))) ty23 rfl rfl isvT2 (.there (.there (.there .here))) rfl (rd_nil ?_))))))
      exact hJ35 _ (t40, v38) h _ (join_imp 12 rfl rfl mod_nil (.cons .here (.cons .here (.cons .here (.cons .here (.cons .here .nil))))))
     ·
      refine rd_t rfl rfl (t_call (r10_maker_node_w fuel hy37) hT (.same rfl (.same rfl (.same rfl .nil))) (.cons (.there (.there .here)) (.cons (.there (.there .here)) .nil)) (fun R H' hR => ?_))
      obtain ⟨v42, rfl, rfl⟩ := hR
      refine rd_two ?_ ?_
      ·
       refine rd_t rfl rfl (t_loadC (R := appv g16.1 (q16.2.1.roots)) ty23 rfl (.there (.there .here)) isvT1 (rd_t rfl rfl (t_buildSlice (l := ([y37.1] : (List Int))) el23 (.cons rfl (fun _ _ h => h) .nil) rfl rfl (rd_t rfl rfl (t_appC (l := q16.2.1.roots) (m := ([y37.1] : (List Int))) ap23_23 rfl (fun _ _ h => h) rfl appv_isv (.there (.there (.there .here))) q41 fun t44 => rd_v rfl (v_fa rfl pt26_0_2 fd26_2) (rd_t rfl rfl (t_storeC (y' := ((q16.2.1.name, q16.2.1.names, (TList.mk t44 (q16.2.1.roots ++ ([y37.1] : (List Int)))), q16.2.1.types) : (Str × (List Str) × (TList Int) × (List GTyp)))) ty23 rfl rfl isvT2 (.there (.there (.there .here))) rfl ?_)))))))
       exact rd_nil (hJ35 _ (t44, v42) h _ (join_imp 12 rfl rfl mod_nil (.cons .here (.cons .here (.cons .here (.cons .here (.cons .here .nil)))))))
      ·
       refine rd_t rfl rfl (t_buildSlice (l := ([y37.1] : (List Int))) el23 (.cons rfl (fun _ _ h => h) .nil) rfl rfl (rd_t rfl rfl (t_loadC (R := appv g16.1 (q16.2.1.roots)) ty23 rfl (.there (.there .here)) isvT1 (rd_t rfl rfl (t_appC (l := q16.2.1.roots) (m := ([y37.1] : (List Int))) ap23_23 rfl (fun _ _ h => h) rfl appv_isv (.there (.there (.there .here))) q41 fun t46 => rd_v rfl (v_fa rfl pt26_0_2 fd26_2) (rd_t rfl rfl (t_storeC (y' := ((q16.2.1.name, q16.2.1.names, (TList.mk t46 (q16.2.1.roots ++ ([y37.1] : (List Int)))), q16.2.1.types) : (Str × (List Str) × (TList Int) × (List GTyp)))) ty23 rfl rfl isvT2 (.there (.there (.there .here))) rfl ?_)))))))
       exact rd_nil (hJ35 _ (t46, v42) h _ (join_imp 12 rfl rfl mod_nil (.cons .here (.cons .here (.cons .here (.cons .here (.cons .here .nil)))))))
   ·
    refine w_exit (exi_nxt (eL17 _ _ (exi_block (fin_nxt ?_))))
    refine wsr (oM rfl (oV (v_nilCheck rfl) (oV (v_fa rfl pt141_0_1 fd141_1) (oT (t_loadC (R := vecv g16.2 (q16.2.2.l.length)) ty24 rfl (.there (.there .here)) isvV1 ?_)))))
    refine oV (v_fa rfl pt26_0_3 fd26_3) (rl_upd (upd_frzF 64 (.there (.there (.there .here))) rfl (by first | rfl | simp)) ?_)
    refine oT (t_storeC (y' := ((q16.2.1.name, q16.2.1.names, (TList.mk g16.1 q16.2.1.roots), q16.2.2.l) : (Str × (List Str) × (TList Int) × (List GTyp)))) ty24 rfl rfl (fun _ _ h => h) .here rfl (rnf (wsr (oT (t_loadC (y := ((q16.2.1.name, q16.2.1.names, (TList.mk g16.1 q16.2.1.roots), q16.2.2.l) : (Str × (List Str) × (TList Int) × (List GTyp)))) (R := isv (((q16.2.1.name, q16.2.1.names, (TList.mk g16.1 q16.2.1.roots), q16.2.2.l)) : ((Str × (List Str) × (TList Int) × (List GTyp))))) ty26 rfl .here (by exact (fun _ _ h => h)) ?_)))))
    refine rl_upd (upd_slot (R' := isv ((GTab.mk q16.2.1.name q16.2.1.names q16.2.1.roots q16.2.2.l))) 66 rfl (Cv.isv rfl fun S => (fun cs h => GTab.cv (x := (GTab.mk q16.2.1.name q16.2.1.names q16.2.1.roots q16.2.2.l)) cs (((Cv.pair Cv.id (Cv.pair Cv.id (Cv.pair Cv.tl Cv.id))) : Cv S ((q16.2.1.name, q16.2.1.names, (TList.mk g16.1 q16.2.1.roots), q16.2.2.l) : (Str × (List Str) × (TList Int) × (List GTyp))) (GTab.to (GTab.mk q16.2.1.name q16.2.1.names q16.2.1.roots q16.2.2.l))) cs h)))) (oT (t_storeC (y' := ((GTab.mk q16.2.1.name q16.2.1.names q16.2.1.roots q16.2.2.l) : GTab)) ty26 rfl rfl (fun _ _ h => h) (.there (.there (.there .here))) rfl (oA rfl (oA rfl (rnf ?_)))))
    refine w_ret (ret_post (.cell rfl .here ty26 (.tmp rfl (.tmp rfl .nil))) .nil ?_)
    obtain rfl := Option.some.inj h
    exact ⟨rfl, rfl⟩
  ·
   refine w_regionD (.v 0 (.v 1 (.v 2 (.v 3 (.alt 4 (.v 5 (.t 6 (.t 7 .nil))) (.t 6 (.t 4 (.v 5 (.t 7 .nil))))))))) moOrd (by kernel_rfl) ?_
   refine rd_v rfl (v_fi rfl GMod.f0 fd73_0 rfl (z := a_m.name)) (rd_v rfl (v_loadI ty9 rfl) (rd_v rfl (v_fi rfl GMod.f2 fd73_2 rfl (z := a_m.names)) (rd_v rfl (v_loadI ty22 rfl) (asr_inv h fun q8 h => ?_))))
   refine rd_two ?_ ?_
   ·
    refine rd_t rfl rfl (t_appN (m := a_m.names) ap22_22 rfl rfl (fun _ _ h => h) q8 fun t7 => rd_v rfl (v_build (z := ((a_m.name, (([] : (List Str)) ++ a_m.names), (TList.mk none ([] : (List Int))), ([] : (List GTyp))) : (Str × (List Str) × (TList Int) × (List GTyp)))) rfl bu26 zt26_3 (.cons pt26_0_0 fd26_0 rfl (fun _ _ h => h) (.cons pt26_0_1 fd26_1 rfl appv_isv .nil))) (rd_t rfl rfl (t_alloc _ zt26_3 fun b9 => rd_upd (upd_tok) (rd_upd (upd_tok) ?_))))
    exact rd_t rfl rfl (t_storeC (y' := ((a_m.name, (([] : (List Str)) ++ a_m.names), (TList.mk none ([] : (List Int))), ([] : (List GTyp))) : (Str × (List Str) × (TList Int) × (List GTyp)))) ty26 rfl rfl (fun _ _ h => h) (.there (.there .here)) rfl (rd_nil (hJ6 _ (b9, none) h _ (join_imp 7 rfl rfl (mod_cons (j := 9) rfl (fun _ _ h => h) mod_nil) (.cons .here (.cons .here (.cons (.there (.there .here)) (.cons (.there (.there .here)) (.cons (.there (.there .here)) .nil)))))))))
   ·
    refine rd_t rfl rfl (t_alloc _ zt26_3 fun b12 => rd_upd (upd_tok) (rd_t rfl rfl (t_appN (m := a_m.names) ap22_22 rfl rfl (fun _ _ h => h) q8 fun t14 => rd_v rfl (v_build (z := ((a_m.name, (([] : (List Str)) ++ a_m.names), (TList.mk none ([] : (List Int))), ([] : (List GTyp))) : (Str × (List Str) × (TList Int) × (List GTyp)))) rfl bu26 zt26_3 (.cons pt26_0_0 fd26_0 rfl (fun _ _ h => h) (.cons pt26_0_1 fd26_1 rfl appv_isv .nil))) (rd_upd (upd_tok) ?_))))
    exact rd_t rfl rfl (t_storeC (y' := ((a_m.name, (([] : (List Str)) ++ a_m.names), (TList.mk none ([] : (List Int))), ([] : (List GTyp))) : (Str × (List Str) × (TList Int) × (List GTyp)))) ty26 rfl rfl (fun _ _ h => h) (.there (.there (.there .here))) rfl (rd_nil (hJ6 _ (b12, none) h _ (join_imp 7 rfl rfl (mod_cons (j := 9) rfl (fun _ _ h => h) mod_nil) (.cons .here (.cons .here (.cons (.there (.there .here)) (.cons (.there (.there .here)) (.cons (.there (.there .here)) .nil)))))))))


theorem oghamplay_Table_w : ∀ {a_text : Str} {r : GTab × Bool}, oghamplay_Table a_text = some r → Ctr Tryz.prog 11 [isv (a_text)] [] (fun R H => R = oneOf [isv (r.1), isv (r.2)] ∧ H = []) := by
 intro a_text r h
 unfold oghamplay_Table at h
 refine spec_intro Tryz.func11 rfl (by decide +kernel) (by rfl) fun w0 S0 hT => ?_
 refine wsr (oT (t_alloc _ ze26 fun b1 => oA rfl (rnf (w_seq ?_))))
 refine wsr (oM rfl (oV (v_lenS st9 rfl) (oV (v_gtr rfl rfl) (rnf ?_))))
 refine w_condM h rfl (fun _ h => ?_) (fun _ h => ?_)
 ·
  refine wsr (oV (v_build (z := (GTab.mk (Str.mk []) ([] : (List Str)) ([] : (List Int)) ([] : (List GTyp)))) rfl bu26 ze26 .nil) (oT (t_storeC (y' := ((GTab.mk (Str.mk []) ([] : (List Str)) ([] : (List Int)) ([] : (List GTyp))) : GTab)) ty26 rfl rfl (fun _ _ h => h) .here rfl (oA rfl (rnf ?_)))))
  refine w_ret (ret_nxt (ret_post (.cell rfl .here ty26 (.tmp rfl .nil)) .nil ?_))
  obtain rfl := Option.some.inj h
  exact ⟨rfl, rfl⟩
 ·
  refine wkf (wsr (oM rfl (cal_inv h fun y2 hy2 h => oT (t_call (r05_Parse_w hy2) hT (.same rfl .nil) .nil (fun R H' hR => ?_)))))
  obtain ⟨rfl, rfl⟩ := hR
  refine oM rfl (oV (v_extract rfl rfl) (oV (v_extract rfl rfl) (oV (v_extract rfl rfl) (oT (t_alloc _ ze73 fun b3 => ?_)))))
  refine oT (t_storeC (y' := (y2.1 : GMod)) ty73 rfl rfl (fun _ _ h => h) .here rfl (rl_upd (upd_imm 4 .here rfl) (oA rfl (oA rfl (rnf ?_)))))
  refine w_seq (wsr (oM rfl (oV (v_neq rfl rfl) (rnf ?_))))
  refine w_condM h rfl (fun _ h => ?_) (fun _ h => ?_)
  ·
   refine wsr (oV (v_build (z := (GTab.mk (Str.mk []) ([] : (List Str)) ([] : (List Int)) ([] : (List GTyp)))) rfl bu26 ze26 .nil) (oT (t_storeC (y' := ((GTab.mk (Str.mk []) ([] : (List Str)) ([] : (List Int)) ([] : (List GTyp))) : GTab)) ty26 rfl rfl (fun _ _ h => h) .here rfl (oA rfl (rnf ?_)))))
   refine w_ret (ret_nxt (ret_post (.cell rfl .here ty26 (.tmp rfl .nil)) .nil ?_))
   obtain rfl := Option.some.inj h
   exact ⟨rfl, rfl⟩
  ·
   refine wkf (wsr (oV (v_loadI ty73 rfl) (cal_inv h fun y4 hy4 h => oT (t_call (r10_Make_w hy4) hT (.same rfl .nil) .nil (fun R H' hR => ?_)))))
   obtain ⟨rfl, rfl⟩ := hR
   refine oM rfl (oV (v_extract rfl rfl) (oV (v_extract rfl rfl) (oV (v_extract rfl rfl) (oT (t_alloc _ ze26 fun b5 => ?_)))))
   refine oT (t_storeC (y' := (y4.1 : GTab)) ty26 rfl rfl (fun _ _ h => h) .here rfl (rl_upd (upd_imm 7 .here rfl) (oA rfl (oA rfl (rnf ?_)))))
   refine w_seq (w_regionD (.v 0 (.v 1 (.v 2 (.v 3 (.v 4 (.v 5 (.v 6 (.v 7 (.v 8 (.t 9 (.v 10 .nil))))))))))) moOrd (by kernel_rfl) ?_)
   refine rd_v rfl (v_loadI ty26 rfl) (rvm rfl rfl (rd_v rfl (v_eql rfl rfl) (rvm rfl rfl (rd_j (jb 37) je .nil h 5 rfl (fun q6 g6 h => ?_) (fun J7 h hJ7 => ?_)))))
   ·
    refine rd_t rfl rfl (t_storeC (y' := (y4.1 : GTab)) ty26 rfl rfl (fun _ _ h => h) .here rfl (rd_v rfl (v_assign rfl) (rd_nil (fin_nxt (w_ret ?_)))))
    refine ret_post (.cell rfl .here ty26 (.tmp rfl .nil)) .nil ?_
    obtain rfl := Option.some.inj h
    exact ⟨rfl, rfl⟩
   ·
    refine rd_condM (j := 32) h rfl (fun g8 h => ?_) (fun g8 h => ?_)
    ·
     refine rvt 32 rfl rfl rfl g8 (v_fi rfl GTab.f3 fd26_3 rfl (z := y4.1.types)) (rvt 32 rfl rfl rfl g8 (v_loadI ty24 rfl) (rvt 32 rfl rfl rfl g8 (v_ln (l := y4.1.types) rfl (fun _ _ h => h) sl24) (rvt 32 rfl rfl rfl g8 (v_leq rfl rfl) (rd_v rfl (v_pick_t rfl g8 rfl) ?_))))
     exact hJ7 _ () h _ (join_imp 5 rfl rfl (mod_cons (j := 37) rfl (fun _ _ h => h) mod_nil) (.cons .here .nil))
    ·
     refine rpv 32 rfl rfl rfl g8 (rpv 32 rfl rfl rfl g8 (rpv 32 rfl rfl rfl g8 (rpv 32 rfl rfl rfl g8 (rd_v rfl (v_pick_f rfl g8 rfl) ?_))))
     exact hJ7 _ () h _ (join_imp 5 rfl rfl (mod_cons (j := 37) rfl (fun _ _ h => h) mod_nil) (.cons .here .nil))

end Go.Proofs.YtnnijoepfgnlfaaGreatDoor

