/- Walks, printed by mill.py. -/
import Derived.Test.YtiibmpdjkdjbiaaGreatDoorTsA
import Derived.Test.YtiibmpdjkdjbiaaGreatDoorTsB
import Derived.Test.YtiibmpdjkdjbiaaGreatDoorTsC
import Derived.Test.YtiibmpdjkdjbiaaGreatDoorTsD
import Derived.Test.YtiibmpdjkdjbiaaGreatDoorTsE
set_option linter.unusedVariables false
set_option linter.unusedSimpArgs false

namespace Go.Proofs.YtiibmpdjkdjbiaaGreatDoor
open Go.Sy
set_option maxRecDepth 4000
theorem h_Plain_string_c1_w : ∀ {a_x : Str} {a_y : Str} {r : Bool}, h_Plain_string_c1 a_x a_y = some r → Ctr Tryz.prog 64 [isv (a_x), isv (a_y)] [] (fun R H => R = oneOf [isv (r)] ∧ H = []) := by
 intro a_x a_y r h
 unfold h_Plain_string_c1 at h
 refine spec_introD Tryz.func64 rfl fun w0 S0 hT => wsr (oA rfl (rnf (wsr (oM rfl (oM rfl (oV (v_eqA eq9 rfl rfl) (oA rfl ?_)))))))
 refine rnf (w_ret ?_)
 cases h
 exact ret_post (.tmp rfl .nil) .nil ⟨rfl, rfl⟩


theorem h_Same_string_w : ∀ {a_a : (List Str)} {a_b : (List Str)} {r : Bool}, h_Same_string a_a a_b = some r → Ctr Tryz.prog 63 [isv (a_a), isv (a_b), clov 64 []] [] (fun R H => R = oneOf [isv (r)] ∧ H = []) := by
 intro a_a a_b r h
 unfold h_Same_string at h
 refine spec_introD Tryz.func63 rfl fun w0 S0 hT => wsr (oA rfl (rnf (w_seq (wsr (oM rfl (oV (v_ln (l := a_a) rfl hI sl22) (oM rfl ?_)))))))
 refine oV (v_ln (l := a_b) rfl hI sl22) (oV (v_neq rfl rfl) (rnf (w_condM h rfl (fun _ h => ?_) (fun _ h => ?_))))
 ·refine wsr (oA rfl (rnf (w_ret (ret_nxt ?_))))
  cases h
  exact ret_post (.tmp rfl .nil) .nil ⟨rfl, rfl⟩
 refine wkf (w_seq (wsr (oA rfl (rnf (w_block (w_lp (ι := Int) (γ := Unit) (fun q1 g1 => [(7, isv (q1))]) (fun q1 g1 => []) h () (mod_cons (j := 7) rfl hI mod_nil) .nil (fun L2 q1 g1 Q11 h hL2 eL2 rL2 => w_seq (wsr ?_))))))))
 refine oM rfl (oM rfl (oV (v_ln (l := a_a) rfl hI sl22) (oV (v_lss rfl rfl) (rnf (w_condM h rfl (fun _ h => ?_) (fun _ h => ?_))))))
 ·refine wkf (w_seq (w_block (w_seq (w_regionD (.v 0 (.v 1 (.v 2 (.v 3 (.v 4 (.v 5 (.v 6 (.v 7 (.v 8 (.t 9 (.v 10 .nil))))))))))) moOrd (by kernel_rfl) ?_))))
  refine rvm rfl rfl (rvm rfl rfl (rvm rfl rfl (cal_inv h fun y7 hy7 h => rd_v rfl (v_ix (l := a_a) rfl hI rfl sl22 hy7) (rd_v rfl (v_loadI ty9 rfl) (rvm rfl rfl (rvm rfl rfl (cal_inv h fun y8 hy8 h => ?_)))))))
  refine rd_v rfl (v_ix (l := a_b) rfl hI rfl sl22 hy8) (rd_v rfl (v_loadI ty9 rfl) (cal_inv h fun y9 hy9 h => rd_t rfl rfl (t_callC rfl (s2 rfl rfl) (h_Plain_string_c1_w hy9) hT .nil (fun R H' hR => ?_))))
  obtain ⟨rfl, rfl⟩ := hR
  refine rd_v rfl (v_not rfl) (rd_nil (fin_nxt (w_condM h rfl (fun _ h => ?_) (fun _ h => ?_))))
  ·refine wsr (oA rfl (rnf (w_ret (ret_block (ret_nxt (rL2 _ (ret_block (ret_nxt ?_))))))))
   cases h
   exact ret_post (.tmp rfl .nil) .nil ⟨rfl, rfl⟩
  refine w_skip (fin_block (fin_nxt (w_region (oM rfl (ck_inv h fun q10 h => oV (v_add rfl rfl q10) (oA rfl (rl_nil ?_)))))))
  exact hL2 _ () h _ (ji 19 7 rfl rfl rfl)
 refine w_exit (exi_nxt (eL2 _ _ (exi_block (fin_nxt (wsr (oA rfl (rnf (w_ret ?_))))))))
 cases h
 exact ret_post (.tmp rfl .nil) .nil ⟨rfl, rfl⟩


theorem h_Plain_string_w : ∀ {a_a : (List Str)} {a_b : (List Str)} {r : Bool}, h_Plain_string a_a a_b = some r → Ctr Tryz.prog 37 [isv (a_a), isv (a_b)] [] (fun R H => R = oneOf [isv (r)] ∧ H = []) := by
 intro a_a a_b r h
 unfold h_Plain_string at h
 refine spec_introD Tryz.func37 rfl fun w0 S0 hT => wsr (oA rfl (rnf (wsr (oM rfl (oM rfl (cal_inv h fun y1 hy1 h => oT (t_callE (h_Same_string_w hy1) hT (s3 rfl rfl rfl) .nil ?_)))))))
 refine oA rfl (rnf (w_ret ?_))
 cases h
 exact ret_post (.tmp rfl .nil) .nil ⟨rfl, rfl⟩


theorem h_Plain_int_c1_w : ∀ {a_x : Int} {a_y : Int} {r : Bool}, h_Plain_int_c1 a_x a_y = some r → Ctr Tryz.prog 66 [isv (a_x), isv (a_y)] [] (fun R H => R = oneOf [isv (r)] ∧ H = []) := by
 intro a_x a_y r h
 unfold h_Plain_int_c1 at h
 refine spec_introD Tryz.func66 rfl fun w0 S0 hT => wsr (oA rfl (rnf (wsr (oM rfl (oM rfl (oV (v_eql rfl rfl) (oA rfl ?_)))))))
 refine rnf (w_ret ?_)
 cases h
 exact ret_post (.tmp rfl .nil) .nil ⟨rfl, rfl⟩


theorem h_Same_int_w : ∀ {a_a : (List Int)} {a_b : (List Int)} {r : Bool}, h_Same_int a_a a_b = some r → Ctr Tryz.prog 65 [isv (a_a), isv (a_b), clov 66 []] [] (fun R H => R = oneOf [isv (r)] ∧ H = []) := by
 intro a_a a_b r h
 unfold h_Same_int at h
 refine spec_introD Tryz.func65 rfl fun w0 S0 hT => wsr (oA rfl (rnf (w_seq (wsr (oM rfl (oV (v_ln (l := a_a) rfl hI sl23) (oM rfl ?_)))))))
 refine oV (v_ln (l := a_b) rfl hI sl23) (oV (v_neq rfl rfl) (rnf (w_condM h rfl (fun _ h => ?_) (fun _ h => ?_))))
 ·refine wsr (oA rfl (rnf (w_ret (ret_nxt ?_))))
  cases h
  exact ret_post (.tmp rfl .nil) .nil ⟨rfl, rfl⟩
 refine wkf (w_seq (wsr (oA rfl (rnf (w_block (w_lp (ι := Int) (γ := Unit) (fun q1 g1 => [(7, isv (q1))]) (fun q1 g1 => []) h () (mod_cons (j := 7) rfl hI mod_nil) .nil (fun L2 q1 g1 Q11 h hL2 eL2 rL2 => w_seq (wsr ?_))))))))
 refine oM rfl (oM rfl (oV (v_ln (l := a_a) rfl hI sl23) (oV (v_lss rfl rfl) (rnf (w_condM h rfl (fun _ h => ?_) (fun _ h => ?_))))))
 ·refine wkf (w_seq (w_block (w_seq (w_regionD (.v 0 (.v 1 (.v 2 (.v 3 (.v 4 (.v 5 (.v 6 (.v 7 (.v 8 (.t 9 (.v 10 .nil))))))))))) moOrd (by kernel_rfl) ?_))))
  refine rvm rfl rfl (rvm rfl rfl (rvm rfl rfl (cal_inv h fun y7 hy7 h => rd_v rfl (v_ix (l := a_a) rfl hI rfl sl23 hy7) (rd_v rfl (v_loadI ty3 rfl) (rvm rfl rfl (rvm rfl rfl (cal_inv h fun y8 hy8 h => ?_)))))))
  refine rd_v rfl (v_ix (l := a_b) rfl hI rfl sl23 hy8) (rd_v rfl (v_loadI ty3 rfl) (cal_inv h fun y9 hy9 h => rd_t rfl rfl (t_callC rfl (s2 rfl rfl) (h_Plain_int_c1_w hy9) hT .nil (fun R H' hR => ?_))))
  obtain ⟨rfl, rfl⟩ := hR
  refine rd_v rfl (v_not rfl) (rd_nil (fin_nxt (w_condM h rfl (fun _ h => ?_) (fun _ h => ?_))))
  ·refine wsr (oA rfl (rnf (w_ret (ret_block (ret_nxt (rL2 _ (ret_block (ret_nxt ?_))))))))
   cases h
   exact ret_post (.tmp rfl .nil) .nil ⟨rfl, rfl⟩
  refine w_skip (fin_block (fin_nxt (w_region (oM rfl (ck_inv h fun q10 h => oV (v_add rfl rfl q10) (oA rfl (rl_nil ?_)))))))
  exact hL2 _ () h _ (ji 19 7 rfl rfl rfl)
 refine w_exit (exi_nxt (eL2 _ _ (exi_block (fin_nxt (wsr (oA rfl (rnf (w_ret ?_))))))))
 cases h
 exact ret_post (.tmp rfl .nil) .nil ⟨rfl, rfl⟩


theorem h_Plain_int_w : ∀ {a_a : (List Int)} {a_b : (List Int)} {r : Bool}, h_Plain_int a_a a_b = some r → Ctr Tryz.prog 38 [isv (a_a), isv (a_b)] [] (fun R H => R = oneOf [isv (r)] ∧ H = []) := by
 intro a_a a_b r h
 unfold h_Plain_int at h
 refine spec_introD Tryz.func38 rfl fun w0 S0 hT => wsr (oA rfl (rnf (wsr (oM rfl (oM rfl (cal_inv h fun y1 hy1 h => oT (t_callE (h_Same_int_w hy1) hT (s3 rfl rfl rfl) .nil ?_)))))))
 refine oA rfl (rnf (w_ret ?_))
 cases h
 exact ret_post (.tmp rfl .nil) .nil ⟨rfl, rfl⟩


theorem h_Bytes_w : ∀ {a_a : (List UInt8)} {a_b : (List UInt8)} {r : Bool}, h_Bytes a_a a_b = some r → Ctr Tryz.prog 115 [isv (a_a), isv (a_b)] [] (fun R H => R = oneOf [isv (r)] ∧ H = []) := by
 intro a_a a_b r h
 unfold h_Bytes at h
 refine spec_introD Tryz.func115 rfl fun w0 S0 hT => wsr (oA rfl (rnf (wsr (oM rfl (oV (v_bs (l := a_a) Tryz.underlying45 Tryz.underlying5 Tryz.underlying9 rfl hI) (oM rfl (oV (v_bs (l := a_b) Tryz.underlying45 Tryz.underlying5 Tryz.underlying9 rfl hI) ?_)))))))
 refine oV (v_eqA eq9 rfl rfl) (oA rfl (rnf (w_ret ?_)))
 cases h
 exact ret_post (.tmp rfl .nil) .nil ⟨rfl, rfl⟩


theorem h_Raw_w : ∀ {a_a : Raw} {a_b : Raw} {r : Bool}, h_Raw a_a a_b = some r → Ctr Tryz.prog 118 [isv (a_a), isv (a_b)] [] (fun R H => R = oneOf [isv (r)] ∧ H = []) := by
 intro a_a a_b r h
 unfold h_Raw at h
 refine spec_introD Tryz.func118 rfl fun w0 S0 hT => wsr (oT (t_boxIC (y := a_a) rfl hI (oT (t_boxIC (y := a_b) rfl hI (oA rfl (rnf (wsr (oV (v_fi rfl Raw.f0 fd182_0 rfl (z := a_a.n)) (oV (v_loadI ty3 rfl) ?_)))))))))
 refine oV (v_fi rfl Raw.f0 fd182_0 rfl (z := a_b.n)) (oV (v_loadI ty3 rfl) (oV (v_eql rfl rfl) (oM rfl (rl_j (jb 16) je .nil h 6 rfl (fun q1 g1 h => ?_) (fun J2 h hJ2 => ?_)))))
 ·refine oA rfl (rnf (w_ret ?_))
  cases h
  exact ret_post (.tmp rfl .nil) .nil ⟨rfl, rfl⟩
 refine rl_condM (j := 10) h rfl (fun g3 h => ?_) (fun g3 h => ?_)
 ·exact oK 10 rfl rfl rfl g3 (v_fi rfl Raw.f1 fd182_1 rfl (z := a_a.b)) (oK 10 rfl rfl rfl g3 (v_loadI ty45 rfl) (oK 10 rfl rfl rfl g3 (v_fi rfl Raw.f1 fd182_1 rfl (z := a_b.b)) (oK 10 rfl rfl rfl g3 (v_loadI ty45 rfl) (cal_inv h fun y4 hy4 h => op_take rfl rfl (dj := 10) rfl g3 (t_callE (h_Bytes_w hy4) hT (s2 rfl rfl) .nil (oV (v_pick_t rfl g3 rfl) (hJ2 _ () h _ (ji 6 16 rfl rfl rfl))))))))
 exact oP 10 rfl rfl g3 (oP 10 rfl rfl g3 (oP 10 rfl rfl g3 (oP 10 rfl rfl g3 (oP 10 rfl rfl g3 (oV (v_pick_f rfl g3 rfl) (hJ2 _ () h _ (ji 6 16 rfl rfl rfl)))))))


theorem h_Same_api_Raw_w : ∀ {a_a : (List Raw)} {a_b : (List Raw)} {r : Bool}, h_Same_api_Raw a_a a_b = some r → Ctr Tryz.prog 117 [isv (a_a), isv (a_b), clov 118 []] [] (fun R H => R = oneOf [isv (r)] ∧ H = []) := by
 intro a_a a_b r h
 unfold h_Same_api_Raw at h
 refine spec_introD Tryz.func117 rfl fun w0 S0 hT => wsr (oA rfl (rnf (w_seq (wsr (oM rfl (oV (v_ln (l := a_a) rfl hI sl47) (oM rfl ?_)))))))
 refine oV (v_ln (l := a_b) rfl hI sl47) (oV (v_neq rfl rfl) (rnf (w_condM h rfl (fun _ h => ?_) (fun _ h => ?_))))
 ·refine wsr (oA rfl (rnf (w_ret (ret_nxt ?_))))
  cases h
  exact ret_post (.tmp rfl .nil) .nil ⟨rfl, rfl⟩
 refine wkf (w_seq (wsr (oA rfl (rnf (w_block (w_lp (ι := Int) (γ := Unit) (fun q1 g1 => [(7, isv (q1))]) (fun q1 g1 => []) h () (mod_cons (j := 7) rfl hI mod_nil) .nil (fun L2 q1 g1 Q11 h hL2 eL2 rL2 => w_seq (wsr ?_))))))))
 refine oM rfl (oM rfl (oV (v_ln (l := a_a) rfl hI sl47) (oV (v_lss rfl rfl) (rnf (w_condM h rfl (fun _ h => ?_) (fun _ h => ?_))))))
 ·refine wkf (w_seq (w_block (w_seq (w_regionD (.v 0 (.v 1 (.v 2 (.v 3 (.v 4 (.v 5 (.v 6 (.v 7 (.v 8 (.t 9 (.v 10 .nil))))))))))) moOrd (by kernel_rfl) ?_))))
  refine rvm rfl rfl (rvm rfl rfl (rvm rfl rfl (cal_inv h fun y7 hy7 h => rd_v rfl (v_ix (l := a_a) rfl hI rfl sl47 hy7) (rd_v rfl (v_loadI ty182 rfl) (rvm rfl rfl (rvm rfl rfl (cal_inv h fun y8 hy8 h => ?_)))))))
  refine rd_v rfl (v_ix (l := a_b) rfl hI rfl sl47 hy8) (rd_v rfl (v_loadI ty182 rfl) (cal_inv h fun y9 hy9 h => rd_t rfl rfl (t_callC rfl (s2 rfl rfl) (h_Raw_w hy9) hT .nil (fun R H' hR => ?_))))
  obtain ⟨rfl, rfl⟩ := hR
  refine rd_v rfl (v_not rfl) (rd_nil (fin_nxt (w_condM h rfl (fun _ h => ?_) (fun _ h => ?_))))
  ·refine wsr (oA rfl (rnf (w_ret (ret_block (ret_nxt (rL2 _ (ret_block (ret_nxt ?_))))))))
   cases h
   exact ret_post (.tmp rfl .nil) .nil ⟨rfl, rfl⟩
  refine w_skip (fin_block (fin_nxt (w_region (oM rfl (ck_inv h fun q10 h => oV (v_add rfl rfl q10) (oA rfl (rl_nil ?_)))))))
  exact hL2 _ () h _ (ji 19 7 rfl rfl rfl)
 refine w_exit (exi_nxt (eL2 _ _ (exi_block (fin_nxt (wsr (oA rfl (rnf (w_ret ?_))))))))
 cases h
 exact ret_post (.tmp rfl .nil) .nil ⟨rfl, rfl⟩


def h_Same_api_Value_C (f' : (List Val) → (List Val) → Option (Bool)) : Prop :=
 ∀ {a_a : (List Val)} {a_b : (List Val)} {r : Bool}, f' a_a a_b = some r → Ctr Tryz.prog 116 [isv (a_a), isv (a_b), clov 95 []] [] (fun R H => R = oneOf [isv (r)] ∧ H = [])
def h_Value_C (f' : Val → Val → Option (Bool)) : Prop :=
 ∀ {a_a : Val} {a_b : Val} {r : Bool}, f' a_a a_b = some r → Ctr Tryz.prog 95 [isv (a_a), isv (a_b)] [] (fun R H => R = oneOf [isv (r)] ∧ H = [])
theorem h_Same_api_Value_w0 {h_Same_api_Value' : (List Val) → (List Val) → Option (Bool)} {h_Value' : Val → Val → Option (Bool)} (h_h_Same_api_Value : h_Same_api_Value_C h_Same_api_Value') (h_h_Value : h_Value_C h_Value') : ∀ {a_a : (List Val)} {a_b : (List Val)} {r : Bool}, h_Same_api_Value_F h_Same_api_Value' h_Value' a_a a_b = some r → Ctr Tryz.prog 116 [isv (a_a), isv (a_b), clov 95 []] [] (fun R H => R = oneOf [isv (r)] ∧ H = []) := by
 intro a_a a_b r h
 unfold h_Same_api_Value_F at h
 refine spec_introD Tryz.func116 rfl fun w0 S0 hT => wsr (oA rfl (rnf (w_seq (wsr (oM rfl (oV (v_ln (l := a_a) rfl hI sl46) (oM rfl ?_)))))))
 refine oV (v_ln (l := a_b) rfl hI sl46) (oV (v_neq rfl rfl) (rnf (w_condM h rfl (fun _ h => ?_) (fun _ h => ?_))))
 ·refine wsr (oA rfl (rnf (w_ret (ret_nxt ?_))))
  cases h
  exact ret_post (.tmp rfl .nil) .nil ⟨rfl, rfl⟩
 refine wkf (w_seq (wsr (oA rfl (rnf (w_block (w_lp (ι := Int) (γ := Unit) (fun q1 g1 => [(7, isv (q1))]) (fun q1 g1 => []) h () (mod_cons (j := 7) rfl hI mod_nil) .nil (fun L2 q1 g1 Q11 h hL2 eL2 rL2 => w_seq (wsr ?_))))))))
 refine oM rfl (oM rfl (oV (v_ln (l := a_a) rfl hI sl46) (oV (v_lss rfl rfl) (rnf (w_condM h rfl (fun _ h => ?_) (fun _ h => ?_))))))
 ·refine wkf (w_seq (w_block (w_seq (w_regionD (.v 0 (.v 1 (.v 2 (.v 3 (.v 4 (.v 5 (.v 6 (.v 7 (.v 8 (.t 9 (.v 10 .nil))))))))))) moOrd (by kernel_rfl) ?_))))
  refine rvm rfl rfl (rvm rfl rfl (rvm rfl rfl (cal_inv h fun y7 hy7 h => rd_v rfl (v_ix (l := a_a) rfl hI rfl sl46 hy7) (rd_v rfl (v_loadI ty49 rfl) (rvm rfl rfl (rvm rfl rfl (cal_inv h fun y8 hy8 h => ?_)))))))
  refine rd_v rfl (v_ix (l := a_b) rfl hI rfl sl46 hy8) (rd_v rfl (v_loadI ty49 rfl) (cal_inv h fun y9 hy9 h => rd_t rfl rfl (t_callC rfl (s2 rfl rfl) (h_h_Value hy9) hT .nil (fun R H' hR => ?_))))
  obtain ⟨rfl, rfl⟩ := hR
  refine rd_v rfl (v_not rfl) (rd_nil (fin_nxt (w_condM h rfl (fun _ h => ?_) (fun _ h => ?_))))
  ·refine wsr (oA rfl (rnf (w_ret (ret_block (ret_nxt (rL2 _ (ret_block (ret_nxt ?_))))))))
   cases h
   exact ret_post (.tmp rfl .nil) .nil ⟨rfl, rfl⟩
  refine w_skip (fin_block (fin_nxt (w_region (oM rfl (ck_inv h fun q10 h => oV (v_add rfl rfl q10) (oA rfl (rl_nil ?_)))))))
  exact hL2 _ () h _ (ji 19 7 rfl rfl rfl)
 refine w_exit (exi_nxt (eL2 _ _ (exi_block (fin_nxt (wsr (oA rfl (rnf (w_ret ?_))))))))
 cases h
 exact ret_post (.tmp rfl .nil) .nil ⟨rfl, rfl⟩

theorem h_Value_w0 {h_Same_api_Value' : (List Val) → (List Val) → Option (Bool)} {h_Value' : Val → Val → Option (Bool)} (h_h_Same_api_Value : h_Same_api_Value_C h_Same_api_Value') (h_h_Value : h_Value_C h_Value') : ∀ {a_a : Val} {a_b : Val} {r : Bool}, h_Value_F h_Same_api_Value' h_Value' a_a a_b = some r → Ctr Tryz.prog 95 [isv (a_a), isv (a_b)] [] (fun R H => R = oneOf [isv (r)] ∧ H = []) := by
 intro a_a a_b r h
 unfold h_Value_F at h
 refine spec_introD Tryz.func95 rfl fun w0 S0 hT => wsr (oT (t_boxIC (y := a_a) rfl hI (oT (t_boxIC (y := a_b) rfl hI (oA rfl (rnf (wsr (oV (v_fi rfl Val.f0 fd49_0 rfl (z := a_a.kind)) (oV (v_loadI ty3 rfl) ?_)))))))))
 refine oV (v_fi rfl Val.f0 fd49_0 rfl (z := a_b.kind)) (oV (v_loadI ty3 rfl) (oV (v_eql rfl rfl) (oM rfl (rl_j (jb 16) je .nil h 6 rfl (fun q1 g1 h => ?_) (fun J2 h hJ2 => ?_)))))
 ·refine oM rfl (rl_j (jb 23) je .nil h 6 rfl (fun q4 g4 h => ?_) (fun J5 h hJ5 => ?_))
  ·refine oM rfl (rl_j (jb 30) je .nil h 6 rfl (fun q8 g8 h => ?_) (fun J9 h hJ9 => ?_))
   ·refine oM rfl (rl_j (jb 37) je .nil h 6 rfl (fun q12 g12 h => ?_) (fun J13 h hJ13 => ?_))
    ·refine oM rfl (rl_j (jb 44) je .nil h 6 rfl (fun q15 g15 h => ?_) (fun J16 h hJ16 => ?_))
     ·refine oA rfl (rnf (w_ret ?_))
      cases h
      exact ret_post (.tmp rfl .nil) .nil ⟨rfl, rfl⟩
     refine rl_condM (j := 38) h rfl (fun g17 h => ?_) (fun g17 h => ?_)
     ·exact oK 38 rfl rfl rfl g17 (v_fi rfl Val.f5 fd49_5 rfl (z := a_a.more)) (oK 38 rfl rfl rfl g17 (v_loadI ty47 rfl) (oK 38 rfl rfl rfl g17 (v_fi rfl Val.f5 fd49_5 rfl (z := a_b.more)) (oK 38 rfl rfl rfl g17 (v_loadI ty47 rfl) (cal_inv h fun y18 hy18 h => op_take rfl rfl (dj := 38) rfl g17 (t_callE (h_Same_api_Raw_w hy18) hT (s3 rfl rfl rfl) .nil (oV (v_pick_t rfl g17 rfl) (hJ16 _ () h _ (ji 6 44 rfl rfl rfl))))))))
     exact oP 38 rfl rfl g17 (oP 38 rfl rfl g17 (oP 38 rfl rfl g17 (oP 38 rfl rfl g17 (oP 38 rfl rfl g17 (oV (v_pick_f rfl g17 rfl) (hJ16 _ () h _ (ji 6 44 rfl rfl rfl)))))))
    refine rl_condM (j := 31) h rfl (fun g14 h => ?_) (fun g14 h => ?_)
    ·exact oK 31 rfl rfl rfl g14 (v_fi rfl Val.f4 fd49_4 rfl (z := a_a.rule)) (oK 31 rfl rfl rfl g14 (v_loadI ty3 rfl) (oK 31 rfl rfl rfl g14 (v_fi rfl Val.f4 fd49_4 rfl (z := a_b.rule)) (oK 31 rfl rfl rfl g14 (v_loadI ty3 rfl) (oK 31 rfl rfl rfl g14 (v_eql rfl rfl) (oV (v_pick_t rfl g14 rfl) (hJ13 _ () h _ (ji 6 37 rfl rfl rfl)))))))
    exact oP 31 rfl rfl g14 (oP 31 rfl rfl g14 (oP 31 rfl rfl g14 (oP 31 rfl rfl g14 (oP 31 rfl rfl g14 (oV (v_pick_f rfl g14 rfl) (hJ13 _ () h _ (ji 6 37 rfl rfl rfl)))))))
   refine rl_condM (j := 24) h rfl (fun g10 h => ?_) (fun g10 h => ?_)
   ·exact oK 24 rfl rfl rfl g10 (v_fi rfl Val.f3 fd49_3 rfl (z := a_a.l)) (oK 24 rfl rfl rfl g10 (v_loadI ty46 rfl) (oK 24 rfl rfl rfl g10 (v_fi rfl Val.f3 fd49_3 rfl (z := a_b.l)) (oK 24 rfl rfl rfl g10 (v_loadI ty46 rfl) (cal_inv h fun y11 hy11 h => op_take rfl rfl (dj := 24) rfl g10 (t_callE (h_h_Same_api_Value hy11) hT (s3 rfl rfl rfl) .nil (oV (v_pick_t rfl g10 rfl) (hJ9 _ () h _ (ji 6 30 rfl rfl rfl))))))))
   exact oP 24 rfl rfl g10 (oP 24 rfl rfl g10 (oP 24 rfl rfl g10 (oP 24 rfl rfl g10 (oP 24 rfl rfl g10 (oV (v_pick_f rfl g10 rfl) (hJ9 _ () h _ (ji 6 30 rfl rfl rfl)))))))
  refine rl_condM (j := 17) h rfl (fun g6 h => ?_) (fun g6 h => ?_)
  ·exact oK 17 rfl rfl rfl g6 (v_fi rfl Val.f2 fd49_2 rfl (z := a_a.b)) (oK 17 rfl rfl rfl g6 (v_loadI ty45 rfl) (oK 17 rfl rfl rfl g6 (v_fi rfl Val.f2 fd49_2 rfl (z := a_b.b)) (oK 17 rfl rfl rfl g6 (v_loadI ty45 rfl) (cal_inv h fun y7 hy7 h => op_take rfl rfl (dj := 17) rfl g6 (t_callE (h_Bytes_w hy7) hT (s2 rfl rfl) .nil (oV (v_pick_t rfl g6 rfl) (hJ5 _ () h _ (ji 6 23 rfl rfl rfl))))))))
  exact oP 17 rfl rfl g6 (oP 17 rfl rfl g6 (oP 17 rfl rfl g6 (oP 17 rfl rfl g6 (oP 17 rfl rfl g6 (oV (v_pick_f rfl g6 rfl) (hJ5 _ () h _ (ji 6 23 rfl rfl rfl)))))))
 refine rl_condM (j := 10) h rfl (fun g3 h => ?_) (fun g3 h => ?_)
 ·exact oK 10 rfl rfl rfl g3 (v_fi rfl Val.f1 fd49_1 rfl (z := a_a.n)) (oK 10 rfl rfl rfl g3 (v_loadI ty2 rfl) (oK 10 rfl rfl rfl g3 (v_fi rfl Val.f1 fd49_1 rfl (z := a_b.n)) (oK 10 rfl rfl rfl g3 (v_loadI ty2 rfl) (oK 10 rfl rfl rfl g3 (v_eql rfl rfl) (oV (v_pick_t rfl g3 rfl) (hJ2 _ () h _ (ji 6 16 rfl rfl rfl)))))))
 exact oP 10 rfl rfl g3 (oP 10 rfl rfl g3 (oP 10 rfl rfl g3 (oP 10 rfl rfl g3 (oP 10 rfl rfl g3 (oV (v_pick_f rfl g3 rfl) (hJ2 _ () h _ (ji 6 16 rfl rfl rfl)))))))

theorem h_Same_api_Value_grp_w : ∀ n, h_Same_api_Value_C (h_Same_api_Value n) ∧ h_Value_C (h_Value n)
 | 0 => ⟨fun h => (by cases h), fun h => (by cases h)⟩
 | n + 1 => by
  obtain ⟨h0, h1⟩ := h_Same_api_Value_grp_w n
  exact ⟨h_Same_api_Value_w0 h0 h1, h_Value_w0 h0 h1⟩
theorem h_Value_w (n : Nat) : h_Value_C (h_Value n) := (h_Same_api_Value_grp_w n).2

theorem h_Field_w : ∀ {a_a : GFld} {a_b : GFld} {r : Bool}, h_Field a_a a_b = some r → Ctr Tryz.prog 68 [isv (a_a), isv (a_b)] [] (fun R H => R = oneOf [isv (r)] ∧ H = []) := by
 intro a_a a_b r h
 unfold h_Field at h
 refine spec_introD Tryz.func68 rfl fun w0 S0 hT => wsr (oT (t_boxIC (y := a_a) rfl hI (oT (t_boxIC (y := a_b) rfl hI (oA rfl (rnf (wsr (oV (v_fi rfl GFld.f0 fd51_0 rfl (z := a_a.name)) (oV (v_loadI ty9 rfl) ?_)))))))))
 refine oV (v_fi rfl GFld.f0 fd51_0 rfl (z := a_b.name)) (oV (v_loadI ty9 rfl) (oV (v_eqA eq9 rfl rfl) (oM rfl (rl_j (jb 16) je .nil h 6 rfl (fun q1 g1 h => ?_) (fun J2 h hJ2 => ?_)))))
 ·refine oM rfl (rl_j (jb 23) je .nil h 6 rfl (fun q4 g4 h => ?_) (fun J5 h hJ5 => ?_))
  ·refine oM rfl (rl_j (jb 30) je .nil h 6 rfl (fun q7 g7 h => ?_) (fun J8 h hJ8 => ?_))
   ·refine oM rfl (rl_j (jb 37) je .nil h 6 rfl (fun q10 g10 h => ?_) (fun J11 h hJ11 => ?_))
    ·refine oM rfl (rl_j (jb 44) je .nil h 6 rfl (fun q14 g14 h => ?_) (fun J15 h hJ15 => ?_))
     ·refine oA rfl (rnf (w_ret ?_))
      cases h
      exact ret_post (.tmp rfl .nil) .nil ⟨rfl, rfl⟩
     refine rl_condM (j := 38) h rfl (fun g16 h => ?_) (fun g16 h => ?_)
     ·exact oK 38 rfl rfl rfl g16 (v_fi rfl GFld.f5 fd51_5 rfl (z := a_a.group)) (oK 38 rfl rfl rfl g16 (v_loadI ty3 rfl) (oK 38 rfl rfl rfl g16 (v_fi rfl GFld.f5 fd51_5 rfl (z := a_b.group)) (oK 38 rfl rfl rfl g16 (v_loadI ty3 rfl) (oK 38 rfl rfl rfl g16 (v_eql rfl rfl) (oV (v_pick_t rfl g16 rfl) (hJ15 _ () h _ (ji 6 44 rfl rfl rfl)))))))
     exact oP 38 rfl rfl g16 (oP 38 rfl rfl g16 (oP 38 rfl rfl g16 (oP 38 rfl rfl g16 (oP 38 rfl rfl g16 (oV (v_pick_f rfl g16 rfl) (hJ15 _ () h _ (ji 6 44 rfl rfl rfl)))))))
    refine rl_condM (j := 31) h rfl (fun g12 h => ?_) (fun g12 h => ?_)
    ·exact oK 31 rfl rfl rfl g12 (v_fi rfl GFld.f4 fd51_4 rfl (z := a_a.dflt)) (oK 31 rfl rfl rfl g12 (v_loadI ty49 rfl) (oK 31 rfl rfl rfl g12 (v_fi rfl GFld.f4 fd51_4 rfl (z := a_b.dflt)) (oK 31 rfl rfl rfl g12 (v_loadI ty49 rfl) (cal_inv h fun y13 hy13 h => op_take rfl rfl (dj := 31) rfl g12 (t_callE (h_Value_w fuel hy13) hT (s2 rfl rfl) .nil (oV (v_pick_t rfl g12 rfl) (hJ11 _ () h _ (ji 6 37 rfl rfl rfl))))))))
    exact oP 31 rfl rfl g12 (oP 31 rfl rfl g12 (oP 31 rfl rfl g12 (oP 31 rfl rfl g12 (oP 31 rfl rfl g12 (oV (v_pick_f rfl g12 rfl) (hJ11 _ () h _ (ji 6 37 rfl rfl rfl)))))))
   refine rl_condM (j := 24) h rfl (fun g9 h => ?_) (fun g9 h => ?_)
   ·exact oK 24 rfl rfl rfl g9 (v_fi rfl GFld.f3 fd51_3 rfl (z := a_a.has)) (oK 24 rfl rfl rfl g9 (v_loadI ty4 rfl) (oK 24 rfl rfl rfl g9 (v_fi rfl GFld.f3 fd51_3 rfl (z := a_b.has)) (oK 24 rfl rfl rfl g9 (v_loadI ty4 rfl) (oK 24 rfl rfl rfl g9 (v_eqA eq4 rfl rfl) (oV (v_pick_t rfl g9 rfl) (hJ8 _ () h _ (ji 6 30 rfl rfl rfl)))))))
   exact oP 24 rfl rfl g9 (oP 24 rfl rfl g9 (oP 24 rfl rfl g9 (oP 24 rfl rfl g9 (oP 24 rfl rfl g9 (oV (v_pick_f rfl g9 rfl) (hJ8 _ () h _ (ji 6 30 rfl rfl rfl)))))))
  refine rl_condM (j := 17) h rfl (fun g6 h => ?_) (fun g6 h => ?_)
  ·exact oK 17 rfl rfl rfl g6 (v_fi rfl GFld.f2 fd51_2 rfl (z := a_a.optional)) (oK 17 rfl rfl rfl g6 (v_loadI ty4 rfl) (oK 17 rfl rfl rfl g6 (v_fi rfl GFld.f2 fd51_2 rfl (z := a_b.optional)) (oK 17 rfl rfl rfl g6 (v_loadI ty4 rfl) (oK 17 rfl rfl rfl g6 (v_eqA eq4 rfl rfl) (oV (v_pick_t rfl g6 rfl) (hJ5 _ () h _ (ji 6 23 rfl rfl rfl)))))))
  exact oP 17 rfl rfl g6 (oP 17 rfl rfl g6 (oP 17 rfl rfl g6 (oP 17 rfl rfl g6 (oP 17 rfl rfl g6 (oV (v_pick_f rfl g6 rfl) (hJ5 _ () h _ (ji 6 23 rfl rfl rfl)))))))
 refine rl_condM (j := 10) h rfl (fun g3 h => ?_) (fun g3 h => ?_)
 ·exact oK 10 rfl rfl rfl g3 (v_fi rfl GFld.f1 fd51_1 rfl (z := a_a.ty)) (oK 10 rfl rfl rfl g3 (v_loadI ty3 rfl) (oK 10 rfl rfl rfl g3 (v_fi rfl GFld.f1 fd51_1 rfl (z := a_b.ty)) (oK 10 rfl rfl rfl g3 (v_loadI ty3 rfl) (oK 10 rfl rfl rfl g3 (v_eql rfl rfl) (oV (v_pick_t rfl g3 rfl) (hJ2 _ () h _ (ji 6 16 rfl rfl rfl)))))))
 exact oP 10 rfl rfl g3 (oP 10 rfl rfl g3 (oP 10 rfl rfl g3 (oP 10 rfl rfl g3 (oP 10 rfl rfl g3 (oV (v_pick_f rfl g3 rfl) (hJ2 _ () h _ (ji 6 16 rfl rfl rfl)))))))


theorem h_Same_api_Field_w : ∀ {a_a : (List GFld)} {a_b : (List GFld)} {r : Bool}, h_Same_api_Field a_a a_b = some r → Ctr Tryz.prog 67 [isv (a_a), isv (a_b), clov 68 []] [] (fun R H => R = oneOf [isv (r)] ∧ H = []) := by
 intro a_a a_b r h
 unfold h_Same_api_Field at h
 refine spec_introD Tryz.func67 rfl fun w0 S0 hT => wsr (oA rfl (rnf (w_seq (wsr (oM rfl (oV (v_ln (l := a_a) rfl hI sl41) (oM rfl ?_)))))))
 refine oV (v_ln (l := a_b) rfl hI sl41) (oV (v_neq rfl rfl) (rnf (w_condM h rfl (fun _ h => ?_) (fun _ h => ?_))))
 ·refine wsr (oA rfl (rnf (w_ret (ret_nxt ?_))))
  cases h
  exact ret_post (.tmp rfl .nil) .nil ⟨rfl, rfl⟩
 refine wkf (w_seq (wsr (oA rfl (rnf (w_block (w_lp (ι := Int) (γ := Unit) (fun q1 g1 => [(7, isv (q1))]) (fun q1 g1 => []) h () (mod_cons (j := 7) rfl hI mod_nil) .nil (fun L2 q1 g1 Q11 h hL2 eL2 rL2 => w_seq (wsr ?_))))))))
 refine oM rfl (oM rfl (oV (v_ln (l := a_a) rfl hI sl41) (oV (v_lss rfl rfl) (rnf (w_condM h rfl (fun _ h => ?_) (fun _ h => ?_))))))
 ·refine wkf (w_seq (w_block (w_seq (w_regionD (.v 0 (.v 1 (.v 2 (.v 3 (.v 4 (.v 5 (.v 6 (.v 7 (.v 8 (.t 9 (.v 10 .nil))))))))))) moOrd (by kernel_rfl) ?_))))
  refine rvm rfl rfl (rvm rfl rfl (rvm rfl rfl (cal_inv h fun y7 hy7 h => rd_v rfl (v_ix (l := a_a) rfl hI rfl sl41 hy7) (rd_v rfl (v_loadI ty51 rfl) (rvm rfl rfl (rvm rfl rfl (cal_inv h fun y8 hy8 h => ?_)))))))
  refine rd_v rfl (v_ix (l := a_b) rfl hI rfl sl41 hy8) (rd_v rfl (v_loadI ty51 rfl) (cal_inv h fun y9 hy9 h => rd_t rfl rfl (t_callC rfl (s2 rfl rfl) (h_Field_w hy9) hT .nil (fun R H' hR => ?_))))
  obtain ⟨rfl, rfl⟩ := hR
  refine rd_v rfl (v_not rfl) (rd_nil (fin_nxt (w_condM h rfl (fun _ h => ?_) (fun _ h => ?_))))
  ·refine wsr (oA rfl (rnf (w_ret (ret_block (ret_nxt (rL2 _ (ret_block (ret_nxt ?_))))))))
   cases h
   exact ret_post (.tmp rfl .nil) .nil ⟨rfl, rfl⟩
  refine w_skip (fin_block (fin_nxt (w_region (oM rfl (ck_inv h fun q10 h => oV (v_add rfl rfl q10) (oA rfl (rl_nil ?_)))))))
  exact hL2 _ () h _ (ji 19 7 rfl rfl rfl)
 refine w_exit (exi_nxt (eL2 _ _ (exi_block (fin_nxt (wsr (oA rfl (rnf (w_ret ?_))))))))
 cases h
 exact ret_post (.tmp rfl .nil) .nil ⟨rfl, rfl⟩


theorem h_Type_w : ∀ {a_a : GTyp} {a_b : GTyp} {r : Bool}, h_Type a_a a_b = some r → Ctr Tryz.prog 40 [isv (a_a), isv (a_b)] [] (fun R H => R = oneOf [isv (r)] ∧ H = []) := by
 intro a_a a_b r h
 unfold h_Type at h
 refine spec_introD Tryz.func40 rfl fun w0 S0 hT => wsr (oT (t_boxIC (y := a_a) rfl hI (oT (t_boxIC (y := a_b) rfl hI (oA rfl (rnf (wsr (oV (v_fi rfl GTyp.f0 fd43_0 rfl (z := a_a.kind)) (oV (v_loadI ty3 rfl) ?_)))))))))
 refine oV (v_fi rfl GTyp.f0 fd43_0 rfl (z := a_b.kind)) (oV (v_loadI ty3 rfl) (oV (v_eql rfl rfl) (oM rfl (rl_j (jb 16) je .nil h 6 rfl (fun q1 g1 h => ?_) (fun J2 h hJ2 => ?_)))))
 ·refine oM rfl (rl_j (jb 23) je .nil h 6 rfl (fun q5 g5 h => ?_) (fun J6 h hJ6 => ?_))
  ·refine oM rfl (rl_j (jb 30) je .nil h 6 rfl (fun q8 g8 h => ?_) (fun J9 h hJ9 => ?_))
   ·refine oM rfl (rl_j (jb 37) je .nil h 6 rfl (fun q12 g12 h => ?_) (fun J13 h hJ13 => ?_))
    ·refine oM rfl (rl_j (jb 44) je .nil h 6 rfl (fun q16 g16 h => ?_) (fun J17 h hJ17 => ?_))
     ·refine oM rfl (rl_j (jb 51) je .nil h 6 rfl (fun q19 g19 h => ?_) (fun J20 h hJ20 => ?_))
      ·refine oM rfl (rl_j (jb 58) je .nil h 6 rfl (fun q22 g22 h => ?_) (fun J23 h hJ23 => ?_))
       ·refine oA rfl (rnf (w_ret ?_))
        cases h
        exact ret_post (.tmp rfl .nil) .nil ⟨rfl, rfl⟩
       refine rl_condM (j := 52) h rfl (fun g24 h => ?_) (fun g24 h => ?_)
       ·exact oK 52 rfl rfl rfl g24 (v_fi rfl GTyp.f7 fd43_7 rfl (z := a_a.of)) (oK 52 rfl rfl rfl g24 (v_loadI ty3 rfl) (oK 52 rfl rfl rfl g24 (v_fi rfl GTyp.f7 fd43_7 rfl (z := a_b.of)) (oK 52 rfl rfl rfl g24 (v_loadI ty3 rfl) (oK 52 rfl rfl rfl g24 (v_eql rfl rfl) (oV (v_pick_t rfl g24 rfl) (hJ23 _ () h _ (ji 6 58 rfl rfl rfl)))))))
       exact oP 52 rfl rfl g24 (oP 52 rfl rfl g24 (oP 52 rfl rfl g24 (oP 52 rfl rfl g24 (oP 52 rfl rfl g24 (oV (v_pick_f rfl g24 rfl) (hJ23 _ () h _ (ji 6 58 rfl rfl rfl)))))))
      refine rl_condM (j := 45) h rfl (fun g21 h => ?_) (fun g21 h => ?_)
      ·exact oK 45 rfl rfl rfl g21 (v_fi rfl GTyp.f6 fd43_6 rfl (z := a_a.more)) (oK 45 rfl rfl rfl g21 (v_loadI ty4 rfl) (oK 45 rfl rfl rfl g21 (v_fi rfl GTyp.f6 fd43_6 rfl (z := a_b.more)) (oK 45 rfl rfl rfl g21 (v_loadI ty4 rfl) (oK 45 rfl rfl rfl g21 (v_eqA eq4 rfl rfl) (oV (v_pick_t rfl g21 rfl) (hJ20 _ () h _ (ji 6 51 rfl rfl rfl)))))))
      exact oP 45 rfl rfl g21 (oP 45 rfl rfl g21 (oP 45 rfl rfl g21 (oP 45 rfl rfl g21 (oP 45 rfl rfl g21 (oV (v_pick_f rfl g21 rfl) (hJ20 _ () h _ (ji 6 51 rfl rfl rfl)))))))
     refine rl_condM (j := 38) h rfl (fun g18 h => ?_) (fun g18 h => ?_)
     ·exact oK 38 rfl rfl rfl g18 (v_fi rfl GTyp.f5 fd43_5 rfl (z := a_a.root)) (oK 38 rfl rfl rfl g18 (v_loadI ty3 rfl) (oK 38 rfl rfl rfl g18 (v_fi rfl GTyp.f5 fd43_5 rfl (z := a_b.root)) (oK 38 rfl rfl rfl g18 (v_loadI ty3 rfl) (oK 38 rfl rfl rfl g18 (v_eql rfl rfl) (oV (v_pick_t rfl g18 rfl) (hJ17 _ () h _ (ji 6 44 rfl rfl rfl)))))))
     exact oP 38 rfl rfl g18 (oP 38 rfl rfl g18 (oP 38 rfl rfl g18 (oP 38 rfl rfl g18 (oP 38 rfl rfl g18 (oV (v_pick_f rfl g18 rfl) (hJ17 _ () h _ (ji 6 44 rfl rfl rfl)))))))
    refine rl_condM (j := 31) h rfl (fun g14 h => ?_) (fun g14 h => ?_)
    ·exact oK 31 rfl rfl rfl g14 (v_fi rfl GTyp.f4 fd43_4 rfl (z := a_a.fields)) (oK 31 rfl rfl rfl g14 (v_loadI ty41 rfl) (oK 31 rfl rfl rfl g14 (v_fi rfl GTyp.f4 fd43_4 rfl (z := a_b.fields)) (oK 31 rfl rfl rfl g14 (v_loadI ty41 rfl) (cal_inv h fun y15 hy15 h => op_take rfl rfl (dj := 31) rfl g14 (t_callE (h_Same_api_Field_w hy15) hT (s3 rfl rfl rfl) .nil (oV (v_pick_t rfl g14 rfl) (hJ13 _ () h _ (ji 6 37 rfl rfl rfl))))))))
    exact oP 31 rfl rfl g14 (oP 31 rfl rfl g14 (oP 31 rfl rfl g14 (oP 31 rfl rfl g14 (oP 31 rfl rfl g14 (oV (v_pick_f rfl g14 rfl) (hJ13 _ () h _ (ji 6 37 rfl rfl rfl)))))))
   refine rl_condM (j := 24) h rfl (fun g10 h => ?_) (fun g10 h => ?_)
   ·exact oK 24 rfl rfl rfl g10 (v_fi rfl GTyp.f3 fd43_3 rfl (z := a_a.items)) (oK 24 rfl rfl rfl g10 (v_loadI ty40 rfl) (oK 24 rfl rfl rfl g10 (v_fi rfl GTyp.f3 fd43_3 rfl (z := a_b.items)) (oK 24 rfl rfl rfl g10 (v_loadI ty40 rfl) (cal_inv h fun y11 hy11 h => op_take rfl rfl (dj := 24) rfl g10 (t_callE (h_Plain_api_Item_w hy11) hT (s2 rfl rfl) .nil (oV (v_pick_t rfl g10 rfl) (hJ9 _ () h _ (ji 6 30 rfl rfl rfl))))))))
   exact oP 24 rfl rfl g10 (oP 24 rfl rfl g10 (oP 24 rfl rfl g10 (oP 24 rfl rfl g10 (oP 24 rfl rfl g10 (oV (v_pick_f rfl g10 rfl) (hJ9 _ () h _ (ji 6 30 rfl rfl rfl)))))))
  refine rl_condM (j := 17) h rfl (fun g7 h => ?_) (fun g7 h => ?_)
  ·exact oK 17 rfl rfl rfl g7 (v_fi rfl GTyp.f2 fd43_2 rfl (z := a_a.con)) (oK 17 rfl rfl rfl g7 (v_loadI ty39 rfl) (oK 17 rfl rfl rfl g7 (v_fi rfl GTyp.f2 fd43_2 rfl (z := a_b.con)) (oK 17 rfl rfl rfl g7 (v_loadI ty39 rfl) (oK 17 rfl rfl rfl g7 (v_eqA eq39 rfl rfl) (oV (v_pick_t rfl g7 rfl) (hJ6 _ () h _ (ji 6 23 rfl rfl rfl)))))))
  exact oP 17 rfl rfl g7 (oP 17 rfl rfl g7 (oP 17 rfl rfl g7 (oP 17 rfl rfl g7 (oP 17 rfl rfl g7 (oV (v_pick_f rfl g7 rfl) (hJ6 _ () h _ (ji 6 23 rfl rfl rfl)))))))
 refine rl_condM (j := 10) h rfl (fun g3 h => ?_) (fun g3 h => ?_)
 ·exact oK 10 rfl rfl rfl g3 (v_fi rfl GTyp.f1 fd43_1 rfl (z := a_a.tags)) (oK 10 rfl rfl rfl g3 (v_loadI ty37 rfl) (oK 10 rfl rfl rfl g3 (v_fi rfl GTyp.f1 fd43_1 rfl (z := a_b.tags)) (oK 10 rfl rfl rfl g3 (v_loadI ty37 rfl) (cal_inv h fun y4 hy4 h => op_take rfl rfl (dj := 10) rfl g3 (t_callE (h_Plain_api_Tag_w hy4) hT (s2 rfl rfl) .nil (oV (v_pick_t rfl g3 rfl) (hJ2 _ () h _ (ji 6 16 rfl rfl rfl))))))))
 exact oP 10 rfl rfl g3 (oP 10 rfl rfl g3 (oP 10 rfl rfl g3 (oP 10 rfl rfl g3 (oP 10 rfl rfl g3 (oV (v_pick_f rfl g3 rfl) (hJ2 _ () h _ (ji 6 16 rfl rfl rfl)))))))


theorem h_Same_api_Type_w : ∀ {a_a : (List GTyp)} {a_b : (List GTyp)} {r : Bool}, h_Same_api_Type a_a a_b = some r → Ctr Tryz.prog 39 [isv (a_a), isv (a_b), clov 40 []] [] (fun R H => R = oneOf [isv (r)] ∧ H = []) := by
 intro a_a a_b r h
 unfold h_Same_api_Type at h
 refine spec_introD Tryz.func39 rfl fun w0 S0 hT => wsr (oA rfl (rnf (w_seq (wsr (oM rfl (oV (v_ln (l := a_a) rfl hI sl31) (oM rfl ?_)))))))
 refine oV (v_ln (l := a_b) rfl hI sl31) (oV (v_neq rfl rfl) (rnf (w_condM h rfl (fun _ h => ?_) (fun _ h => ?_))))
 ·refine wsr (oA rfl (rnf (w_ret (ret_nxt ?_))))
  cases h
  exact ret_post (.tmp rfl .nil) .nil ⟨rfl, rfl⟩
 refine wkf (w_seq (wsr (oA rfl (rnf (w_block (w_lp (ι := Int) (γ := Unit) (fun q1 g1 => [(7, isv (q1))]) (fun q1 g1 => []) h () (mod_cons (j := 7) rfl hI mod_nil) .nil (fun L2 q1 g1 Q11 h hL2 eL2 rL2 => w_seq (wsr ?_))))))))
 refine oM rfl (oM rfl (oV (v_ln (l := a_a) rfl hI sl31) (oV (v_lss rfl rfl) (rnf (w_condM h rfl (fun _ h => ?_) (fun _ h => ?_))))))
 ·refine wkf (w_seq (w_block (w_seq (w_regionD (.v 0 (.v 1 (.v 2 (.v 3 (.v 4 (.v 5 (.v 6 (.v 7 (.v 8 (.t 9 (.v 10 .nil))))))))))) moOrd (by kernel_rfl) ?_))))
  refine rvm rfl rfl (rvm rfl rfl (rvm rfl rfl (cal_inv h fun y7 hy7 h => rd_v rfl (v_ix (l := a_a) rfl hI rfl sl31 hy7) (rd_v rfl (v_loadI ty43 rfl) (rvm rfl rfl (rvm rfl rfl (cal_inv h fun y8 hy8 h => ?_)))))))
  refine rd_v rfl (v_ix (l := a_b) rfl hI rfl sl31 hy8) (rd_v rfl (v_loadI ty43 rfl) (cal_inv h fun y9 hy9 h => rd_t rfl rfl (t_callC rfl (s2 rfl rfl) (h_Type_w hy9) hT .nil (fun R H' hR => ?_))))
  obtain ⟨rfl, rfl⟩ := hR
  refine rd_v rfl (v_not rfl) (rd_nil (fin_nxt (w_condM h rfl (fun _ h => ?_) (fun _ h => ?_))))
  ·refine wsr (oA rfl (rnf (w_ret (ret_block (ret_nxt (rL2 _ (ret_block (ret_nxt ?_))))))))
   cases h
   exact ret_post (.tmp rfl .nil) .nil ⟨rfl, rfl⟩
  refine w_skip (fin_block (fin_nxt (w_region (oM rfl (ck_inv h fun q10 h => oV (v_add rfl rfl q10) (oA rfl (rl_nil ?_)))))))
  exact hL2 _ () h _ (ji 19 7 rfl rfl rfl)
 refine w_exit (exi_nxt (eL2 _ _ (exi_block (fin_nxt (wsr (oA rfl (rnf (w_ret ?_))))))))
 cases h
 exact ret_post (.tmp rfl .nil) .nil ⟨rfl, rfl⟩


theorem h_Table_w : ∀ {a_a : GTab} {a_b : GTab} {r : Bool}, h_Table a_a a_b = some r → Ctr Tryz.prog 14 [isv (a_a), isv (a_b)] [] (fun R H => R = oneOf [isv (r)] ∧ H = []) := by
 intro a_a a_b r h
 unfold h_Table at h
 refine spec_introD Tryz.func14 rfl fun w0 S0 hT => wsr (oT (t_boxIC (y := a_a) rfl hI (oT (t_boxIC (y := a_b) rfl hI (oA rfl (rnf (wsr (oV (v_fi rfl GTab.f0 fd33_0 rfl (z := a_a.name)) (oV (v_loadI ty9 rfl) ?_)))))))))
 refine oV (v_fi rfl GTab.f0 fd33_0 rfl (z := a_b.name)) (oV (v_loadI ty9 rfl) (oV (v_eqA eq9 rfl rfl) (oM rfl (rl_j (jb 16) je .nil h 6 rfl (fun q1 g1 h => ?_) (fun J2 h hJ2 => ?_)))))
 ·refine oM rfl (rl_j (jb 23) je .nil h 6 rfl (fun q5 g5 h => ?_) (fun J6 h hJ6 => ?_))
  ·refine oM rfl (rl_j (jb 30) je .nil h 6 rfl (fun q9 g9 h => ?_) (fun J10 h hJ10 => ?_))
   ·refine oA rfl (rnf (w_ret ?_))
    cases h
    exact ret_post (.tmp rfl .nil) .nil ⟨rfl, rfl⟩
   refine rl_condM (j := 24) h rfl (fun g11 h => ?_) (fun g11 h => ?_)
   ·exact oK 24 rfl rfl rfl g11 (v_fi rfl GTab.f3 fd33_3 rfl (z := a_a.types)) (oK 24 rfl rfl rfl g11 (v_loadI ty31 rfl) (oK 24 rfl rfl rfl g11 (v_fi rfl GTab.f3 fd33_3 rfl (z := a_b.types)) (oK 24 rfl rfl rfl g11 (v_loadI ty31 rfl) (cal_inv h fun y12 hy12 h => op_take rfl rfl (dj := 24) rfl g11 (t_callE (h_Same_api_Type_w hy12) hT (s3 rfl rfl rfl) .nil (oV (v_pick_t rfl g11 rfl) (hJ10 _ () h _ (ji 6 30 rfl rfl rfl))))))))
   exact oP 24 rfl rfl g11 (oP 24 rfl rfl g11 (oP 24 rfl rfl g11 (oP 24 rfl rfl g11 (oP 24 rfl rfl g11 (oV (v_pick_f rfl g11 rfl) (hJ10 _ () h _ (ji 6 30 rfl rfl rfl)))))))
  refine rl_condM (j := 17) h rfl (fun g7 h => ?_) (fun g7 h => ?_)
  ·exact oK 17 rfl rfl rfl g7 (v_fi rfl GTab.f2 fd33_2 rfl (z := a_a.roots)) (oK 17 rfl rfl rfl g7 (v_loadI ty23 rfl) (oK 17 rfl rfl rfl g7 (v_fi rfl GTab.f2 fd33_2 rfl (z := a_b.roots)) (oK 17 rfl rfl rfl g7 (v_loadI ty23 rfl) (cal_inv h fun y8 hy8 h => op_take rfl rfl (dj := 17) rfl g7 (t_callE (h_Plain_int_w hy8) hT (s2 rfl rfl) .nil (oV (v_pick_t rfl g7 rfl) (hJ6 _ () h _ (ji 6 23 rfl rfl rfl))))))))
  exact oP 17 rfl rfl g7 (oP 17 rfl rfl g7 (oP 17 rfl rfl g7 (oP 17 rfl rfl g7 (oP 17 rfl rfl g7 (oV (v_pick_f rfl g7 rfl) (hJ6 _ () h _ (ji 6 23 rfl rfl rfl)))))))
 refine rl_condM (j := 10) h rfl (fun g3 h => ?_) (fun g3 h => ?_)
 ·exact oK 10 rfl rfl rfl g3 (v_fi rfl GTab.f1 fd33_1 rfl (z := a_a.names)) (oK 10 rfl rfl rfl g3 (v_loadI ty22 rfl) (oK 10 rfl rfl rfl g3 (v_fi rfl GTab.f1 fd33_1 rfl (z := a_b.names)) (oK 10 rfl rfl rfl g3 (v_loadI ty22 rfl) (cal_inv h fun y4 hy4 h => op_take rfl rfl (dj := 10) rfl g3 (t_callE (h_Plain_string_w hy4) hT (s2 rfl rfl) .nil (oV (v_pick_t rfl g3 rfl) (hJ2 _ () h _ (ji 6 16 rfl rfl rfl))))))))
 exact oP 10 rfl rfl g3 (oP 10 rfl rfl g3 (oP 10 rfl rfl g3 (oP 10 rfl rfl g3 (oP 10 rfl rfl g3 (oV (v_pick_f rfl g3 rfl) (hJ2 _ () h _ (ji 6 16 rfl rfl rfl)))))))


def r10_begins_C (f' : (List GTyp) → Int → Option ((List Tag))) : Prop :=
 ∀ {a_l : (List GTyp)} {a_i : Int} {r : (List Tag)}, f' a_l a_i = some r → Ctr Tryz.prog 41 [isv (a_l), isv (a_i)] [] (fun R H => R = oneOf [isv (r)] ∧ H = [])
theorem r10_begins_w0 {r10_begins' : (List GTyp) → Int → Option ((List Tag))} (h_r10_begins : r10_begins_C r10_begins') : ∀ {a_l : (List GTyp)} {a_i : Int} {r : (List Tag)}, r10_begins_F r10_begins' a_l a_i = some r → Ctr Tryz.prog 41 [isv (a_l), isv (a_i)] [] (fun R H => R = oneOf [isv (r)] ∧ H = []) := by
 intro a_l a_i r h
 unfold r10_begins_F at h
 refine spec_introD Tryz.func41 rfl fun w0 S0 hT => wsr (oA rfl (rnf (w_seq (wsr (oM rfl (oM rfl (cal_inv h fun y1 hy1 h => ?_)))))))
 refine oV (v_ix (l := a_l) rfl hI rfl sl31 hy1) (oV (v_fi rfl GTyp.f1 fd43_1 rfl (z := y1.tags)) (oV (v_loadI ty37 rfl) (oV (v_ln (l := y1.tags) rfl hI sl37) (oV (v_gtr rfl rfl) (rnf (w_condM h rfl (fun _ h => ?_) (fun _ h => ?_)))))))
 ·refine wsr (oM rfl (oM rfl (cal_inv h fun y2 hy2 h => oV (v_ix (l := a_l) rfl hI rfl sl31 hy2) (oV (v_fi rfl GTyp.f1 fd43_1 rfl (z := y2.tags)) (oV (v_loadI ty37 rfl) (asd_inv h fun q3 h => oV (v_sl (l := y2.tags) rfl hI sl37 (.inl ⟨rfl, rfl⟩) (.inr ⟨_, rfl, rfl⟩) q3.1 q3.2.1 q3.2.2) ?_))))))
  refine oA rfl (rnf (w_ret (ret_nxt ?_)))
  cases h
  exact ret_post (.tmp rfl .nil) .nil ⟨rfl, rfl⟩
 refine wkf (wsr (oA rfl (rnf (w_seq (wsr (oA rfl (rnf (w_block ?_))))))))
 refine w_upd (upd_tok) (w_lp (ι := (List Tag) × Int) (γ := Tok) (fun q4 g4 => [(5, appv g4 (q4.1)), (6, isv (q4.2))]) (fun q4 g4 => [tokE g4]) h (none) (mod_cons (j := 5) rfl nilv_appv (mod_cons (j := 6) rfl hI mod_nil)) k1 (fun L5 q4 g4 Q21 h hL5 eL5 rL5 => w_seq (wsr (oM rfl (oM rfl (oM rfl (cal_inv h fun y13 hy13 h => oV (v_ix (l := a_l) rfl hI rfl sl31 hy13) ?_)))))))
 refine oV (v_fi rfl GTyp.f4 fd43_4 rfl (z := y13.fields)) (oV (v_loadI ty41 rfl) (oV (v_ln (l := y13.fields) rfl hI sl41) (oV (v_lss rfl rfl) (rnf (w_condM h rfl (fun _ h => ?_) (fun _ h => ?_))))))
 ·refine wkf (w_seq (w_block (w_region (oM rfl (oM rfl (oM rfl (oM rfl (cal_inv h fun y14 hy14 h => ?_))))))))
  refine oV (v_ix (l := a_l) rfl hI rfl sl31 hy14) (oV (v_fi rfl GTyp.f4 fd43_4 rfl (z := y14.fields)) (oV (v_loadI ty41 rfl) (oM rfl (cal_inv h fun y15 hy15 h => oV (v_ix (l := y14.fields) rfl hI rfl sl41 hy15) (oV (v_fi rfl GFld.f1 fd51_1 rfl (z := y15.ty)) (oV (v_loadI ty3 rfl) (cal_inv h fun y16 hy16 h => ?_)))))))
  refine oT (t_callE (h_r10_begins hy16) hT (s2 rfl rfl) .nil (asr_inv h fun q18 h => oT (t_appC (l := q4.1) (m := y16) ap37_37 rfl hI rfl hI .here q18 fun t17 => oA rfl (rl_nil (fin_block (fin_nxt (w_region (oM rfl ?_))))))))
  exact ck_inv h fun q19 h => oV (v_add rfl rfl q19) (oA rfl (rl_nil (hL5 _ (t17) h _ (join_imp 27 rfl rfl (mod_cons (j := 5) rfl hI (mod_cons (j := 6) rfl hI mod_nil)) k1))))
 refine w_exit (exi_nxt (eL5 _ _ (exi_block (fin_nxt (wsr (oM rfl (oA rfl (rnf ?_))))))))
 refine w_ret ?_
 cases h
 exact ret_post (.as rfl appv_isv .nil) .nil ⟨rfl, rfl⟩

theorem r10_begins_grp_w : ∀ n, r10_begins_C (r10_begins n)
 | 0 => fun h => (by cases h)
 | n + 1 => r10_begins_w0 (r10_begins_grp_w n)
theorem r10_begins_w (n : Nat) : r10_begins_C (r10_begins n) := (r10_begins_grp_w n)

theorem r10_Begins_w : ∀ {a_t : GTab} {a_i : Int} {r : (List Tag)}, r10_Begins a_t a_i = some r → Ctr Tryz.prog 15 [isv (a_t), isv (a_i)] [] (fun R H => R = oneOf [isv (r)] ∧ H = []) := by
 intro a_t a_i r h
 unfold r10_Begins at h
 refine spec_introD Tryz.func15 rfl fun w0 S0 hT => wsr (oT (t_boxIC (y := a_t) rfl hI (oA rfl (rnf (w_seq (wsr (oM rfl (oV (v_lss rfl rfl) ?_))))))))
 refine oM rfl (rl_j (jb 13) je .nil h 6 rfl (fun q1 g1 h => ?_) (fun J2 h hJ2 => ?_))
 ·refine rnf (w_condM h rfl (fun _ h => ?_) (fun _ h => ?_))
  ·refine wsr (oA rfl (rnf (w_ret (ret_nxt ?_))))
   cases h
   exact ret_post (.as rfl (nilv_isv (α := Tag)) .nil) .nil ⟨rfl, rfl⟩
  refine wkf (wsr (oV (v_fi rfl GTab.f3 fd33_3 rfl (z := a_t.types)) (oV (v_loadI ty31 rfl) (oM rfl (cal_inv h fun y4 hy4 h => oT (t_callE (r10_begins_w fuel hy4) hT (s2 rfl rfl) .nil (asr_inv h fun q6 h => oT (t_appN (m := y4) ap37_37 rfl rfl hI q6 fun t5 => ?_))))))))
  refine oA rfl (rnf (w_ret ?_))
  cases h
  exact ret_post (.as rfl appv_isv .nil) .nil ⟨rfl, rfl⟩
 refine rl_condM (j := 7) h rfl (fun g3 h => ?_) (fun g3 h => ?_)
 ·exact oP 7 rfl rfl g3 (oP 7 rfl rfl g3 (oP 7 rfl rfl g3 (oP 7 rfl rfl g3 (oP 7 rfl rfl g3 (oV (v_pick_t rfl g3 rfl) (hJ2 _ () h _ (ji 6 13 rfl rfl rfl)))))))
 exact oK 7 rfl rfl rfl g3 (v_move rfl) (oK 7 rfl rfl rfl g3 (v_fi rfl GTab.f3 fd33_3 rfl (z := a_t.types)) (oK 7 rfl rfl rfl g3 (v_loadI ty31 rfl) (oK 7 rfl rfl rfl g3 (v_ln (l := a_t.types) rfl hI sl31) (oK 7 rfl rfl rfl g3 (v_geq rfl rfl) (oV (v_pick_f rfl g3 rfl) (hJ2 _ () h _ (ji 6 13 rfl rfl rfl)))))))


theorem h_In_api_Tag_w : ∀ {a_l : (List Tag)} {a_x : Tag} {r : Bool}, h_In_api_Tag a_l a_x = some r → Ctr Tryz.prog 42 [isv (a_l), isv (a_x)] [] (fun R H => R = oneOf [isv (r)] ∧ H = []) := by
 intro a_l a_x r h
 unfold h_In_api_Tag at h
 refine spec_introD Tryz.func42 rfl fun w0 S0 hT => wsr (oT (t_boxIC (y := a_x) rfl hI (oA rfl (rnf (w_seq (wsr (oA rfl (rnf ?_))))))))
 refine w_block (w_lp (ι := Int) (γ := Unit) (fun q1 g1 => [(5, isv (q1))]) (fun q1 g1 => []) h () (mod_cons (j := 5) rfl hI mod_nil) .nil (fun L2 q1 g1 Q7 h hL2 eL2 rL2 => w_seq (wsr (oM rfl (oM rfl (oV (v_ln (l := a_l) rfl hI sl37) (oV (v_lss rfl rfl) (rnf ?_))))))))
 refine w_condM h rfl (fun _ h => ?_) (fun _ h => ?_)
 ·refine wkf (w_seq (w_block (w_seq (w_regionD (.v 0 (.v 1 (.v 2 (.v 3 (.v 4 (.v 5 .nil)))))) moOrd (by kernel_rfl) ?_))))
  refine rvm rfl rfl (rvm rfl rfl (cal_inv h fun y5 hy5 h => rd_v rfl (v_ix (l := a_l) rfl hI rfl sl37 hy5) (rd_v rfl (v_loadI ty66 rfl) (rd_v rfl (v_loadI ty66 rfl) (rd_v rfl (v_eqA eq66 rfl rfl) (rd_nil (fin_nxt ?_)))))))
  refine w_condM h rfl (fun _ h => ?_) (fun _ h => ?_)
  ·refine wsr (oA rfl (rnf (w_ret (ret_block (ret_nxt (rL2 _ (ret_block (ret_nxt ?_))))))))
   cases h
   exact ret_post (.tmp rfl .nil) .nil ⟨rfl, rfl⟩
  refine w_skip (fin_block (fin_nxt (w_region (oM rfl (ck_inv h fun q6 h => oV (v_add rfl rfl q6) (oA rfl (rl_nil ?_)))))))
  exact hL2 _ () h _ (ji 14 5 rfl rfl rfl)
 refine w_exit (exi_nxt (eL2 _ _ (exi_block (fin_nxt (wsr (oA rfl (rnf (w_ret ?_))))))))
 cases h
 exact ret_post (.tmp rfl .nil) .nil ⟨rfl, rfl⟩


theorem r09_Distinct_w : ∀ {a_sets : (List (List Tag))} {r : Bool}, r09_Distinct a_sets = some r → Ctr Tryz.prog 16 [isv (a_sets)] [] (fun R H => R = oneOf [isv (r)] ∧ H = []) := by
 intro a_sets r h
 unfold r09_Distinct at h
 refine spec_introD Tryz.func16 rfl fun w0 S0 hT => wsr (oA rfl (rnf (wsr (oA rfl (rnf (w_seq (wsr ?_)))))))
 refine oA rfl (rnf (w_block (w_upd (upd_tok) (w_lp (ι := (List Tag) × Int) (γ := Tok) (fun q1 g1 => [(3, appv g1 (q1.1)), (4, isv (q1.2))]) (fun q1 g1 => [tokE g1]) h (none) (mod_cons (j := 3) rfl nilv_appv (mod_cons (j := 4) rfl hI mod_nil)) k1 (fun L2 q1 g1 Q55 h hL2 eL2 rL2 => w_seq (wsr (oM rfl (oM rfl ?_))))))))
 refine oV (v_ln (l := a_sets) rfl hI sl44) (oV (v_lss rfl rfl) (rnf (w_condM h rfl (fun _ h => ?_) (fun _ h => ?_))))
 ·refine wkf (w_seq (w_block (wsr (oA rfl (rnf (w_block (w_lp (ι := (List Tag) × Int) (γ := Tok) (fun q29 g29 => [(3, appv g29 (q29.1)), (5, isv (q29.2))]) (fun q29 g29 => [tokE g29]) h (g1) (mod_cons (j := 3) rfl hI (mod_cons (j := 5) rfl hI mod_nil)) k1 (fun L30 q29 g29 Q53 h hL30 eL30 rL30 => w_seq ?_))))))))
  refine wsr (oM rfl (oM rfl (oM rfl (cal_inv h fun y42 hy42 h => oV (v_ix (l := a_sets) rfl hI rfl sl44 hy42) (oV (v_loadI ty37 rfl) (oV (v_ln (l := y42) rfl hI sl37) (oV (v_lss rfl rfl) ?_)))))))
  refine rnf (w_condM h rfl (fun _ h => ?_) (fun _ h => ?_))
  ·refine wkf (w_seq (w_block (w_seq (wsr (oM rfl (oM rfl (oM rfl (cal_inv h fun y43 hy43 h => ?_))))))))
   refine oV (v_ix (l := a_sets) rfl hI rfl sl44 hy43) (oV (v_loadI ty37 rfl) (oM rfl (cal_inv h fun y44 hy44 h => oV (v_ix (l := y43) rfl hI rfl sl37 hy44) (oV (v_loadI ty66 rfl) (cal_inv h fun y45 hy45 h => oT (t_callE (h_In_api_Tag_w hy45) hT (.cons rfl appv_isv (s1 rfl)) .nil (rnf ?_)))))))
   refine w_condM h rfl (fun _ h => ?_) (fun _ h => ?_)
   ·refine wsr (oA rfl (rnf (w_ret (ret_nxt (ret_block (ret_nxt (rL30 _ (ret_block ?_))))))))
    refine ret_block (ret_nxt (rL2 _ (ret_block (ret_nxt ?_))))
    cases h
    exact ret_post (.tmp rfl .nil) .nil ⟨rfl, rfl⟩
   refine wkf (w_region (oM rfl (oM rfl (oM rfl (cal_inv h fun y46 hy46 h => oV (v_ix (l := a_sets) rfl hI rfl sl44 hy46) (oV (v_loadI ty37 rfl) (oM rfl ?_)))))))
   refine cal_inv h fun y47 hy47 h => oV (v_ix (l := y46) rfl hI rfl sl37 hy47) (oV (v_loadI ty66 rfl) (oT (t_buildSlice (l := ([y47] : (List Tag))) el37 (.cons rfl hI .nil) rfl rfl (asr_inv h fun q50 h => oT (t_appC (l := q29.1) (m := ([y47] : (List Tag))) ap37_37 rfl hI rfl appv_isv .here q50 fun t49 => oA rfl (rl_nil (fin_block ?_)))))))
   exact fin_nxt (w_region (oM rfl (ck_inv h fun q51 h => oV (v_add rfl rfl q51) (oA rfl (rl_nil (hL30 _ (t49) h _ (join_imp 32 rfl rfl (mod_cons (j := 3) rfl hI (mod_cons (j := 5) rfl hI mod_nil)) k1)))))))
  refine w_exit (exi_nxt (eL30 _ _ (exi_block (fin_block (fin_nxt (w_region (oM rfl (ck_inv h fun q52 h => ?_))))))))
  exact oV (v_add rfl rfl q52) (oA rfl (rl_nil (hL2 _ (g29) h _ (join_imp 19 rfl rfl (mod_cons (j := 3) rfl hI (mod_cons (j := 4) rfl hI mod_nil)) k1))))
 refine w_exit (exi_nxt (eL2 _ _ (exi_block (fin_nxt (wsr (oA rfl (rnf (w_ret ?_))))))))
 cases h
 exact ret_post (.tmp rfl .nil) .nil ⟨rfl, rfl⟩


theorem law10_TableSound_w : ∀ {a_text : Str} {r : Bool}, law10_TableSound a_text = some r → Ctr Tryz.prog 3 [isv (a_text)] [] (fun R H => R = oneOf [isv (r)] ∧ H = []) := by
 intro a_text r h
 unfold law10_TableSound at h
 refine spec_introD Tryz.func3 rfl fun w0 S0 hT => wsr (oA rfl (rnf (wsr (oM rfl (cal_inv h fun y1 hy1 h => oT (t_callE (r05_Parse_w hy1) hT (s1 rfl) .nil (oM rfl ?_)))))))
 refine oV (v_extract rfl rfl) (oV (v_extract rfl rfl) (oV (v_extract rfl rfl) (oT (t_alloc _ ze26 fun b2 => oT (t_storeC (y' := (y1.1 : GMod)) ty26 rfl rfl hI .here rfl (rl_upd (upd_imm 3 .here rfl) (oA rfl (oA rfl (rnf ?_)))))))))
 refine w_seq (wsr (oM rfl (oV (v_lenS st9 rfl) (oV (v_gtr rfl rfl) (oM rfl (rl_j (jb 26) je .nil h 3 rfl (fun q3 g3 h => ?_) (fun J4 h hJ4 => ?_)))))))
 ·refine rnf (w_condM h rfl (fun _ h => ?_) (fun _ h => ?_))
  ·refine wsr (cal_inv h fun y6 hy6 h => oT (t_callE (law10_awake_w hy6) hT .nil .nil (oA rfl (rnf (w_ret (ret_nxt ?_))))))
   cases h
   exact ret_post (.tmp rfl .nil) .nil ⟨rfl, rfl⟩
  refine wkf (wsr (oV (v_loadI ty26 rfl) (cal_inv h fun y7 hy7 h => oT (t_callE (table_Make_w hy7) hT (s1 rfl) .nil (oM rfl (oV (v_extract rfl rfl) (oV (v_extract rfl rfl) (oV (v_extract rfl rfl) ?_))))))))
  refine oT (t_alloc _ ze33 fun b8 => oT (t_storeC (y' := (y7.1 : GTab)) ty33 rfl rfl hI .here rfl (rl_upd (upd_imm 6 .here rfl) (oA rfl (oA rfl (rnf (w_seq (wsr (cal_inv h fun y9 hy9 h => ?_)))))))))
  refine oT (t_callE (law10_awake_w hy9) hT .nil .nil (oV (v_not rfl) (oM rfl (rl_j (jb 39) je .nil h 3 rfl (fun q10 g10 h => ?_) (fun J11 h hJ11 => ?_)))))
  ·refine rnf (w_condM h rfl (fun _ h => ?_) (fun _ h => ?_))
   ·refine wsr (cal_inv h fun y13 hy13 h => oT (t_callE (law10_awake_w hy13) hT .nil .nil (oM rfl (rl_j (jb 45) je .nil h 4 rfl (fun q14 g14 h => ?_) (fun J15 h hJ15 => ?_)))))
    ·refine oA rfl (rnf (w_ret (ret_nxt ?_)))
     cases h
     exact ret_post (.tmp rfl .nil) .nil ⟨rfl, rfl⟩
    refine rl_condM (j := 41) h rfl (fun g16 h => ?_) (fun g16 h => ?_)
    ·exact oK 41 rfl rfl rfl g16 (v_loadI ty33 rfl) (oK 41 rfl rfl rfl g16 (v_build (z := (GTab.mk (Str.mk []) ([] : (List Str)) ([] : (List Int)) ([] : (List GTyp)))) rfl bu33 ze33 .nil) (cal_inv h fun y17 hy17 h => op_take rfl rfl (dj := 41) rfl g16 (t_callE (h_Table_w hy17) hT (s2 rfl rfl) .nil (oV (v_pick_t rfl g16 rfl) (hJ15 _ () h _ (ji 4 45 rfl rfl rfl))))))
    exact oP 41 rfl rfl g16 (oP 41 rfl rfl g16 (oP 41 rfl rfl g16 (oV (v_pick_f rfl g16 rfl) (hJ15 _ () h _ (ji 4 45 rfl rfl rfl)))))
   refine wkf (w_seq (wsr (oV (v_fi rfl GTab.f3 fd33_3 rfl (z := y7.1.types)) (oV (v_loadI ty31 rfl) (oV (v_ln (l := y7.1.types) rfl hI sl31) (oV (v_gtr rfl rfl) (oM rfl (rl_j (jb 58) je .nil h 8 rfl (fun q18 g18 h => ?_) (fun J19 h hJ19 => ?_)))))))))
   ·refine rnf (w_condM h rfl (fun _ h => ?_) (fun _ h => ?_))
    ·refine wsr (oA rfl (rnf (w_ret (ret_nxt ?_))))
     cases h
     exact ret_post (.tmp rfl .nil) .nil ⟨rfl, rfl⟩
    refine wkf (w_seq (wsr (oA rfl (rnf (w_block (w_lp (ι := Int) (γ := Unit) (fun q21 g21 => [(9, isv (q21))]) (fun q21 g21 => []) h () (mod_cons (j := 9) rfl hI mod_nil) .nil (fun L22 q21 g21 Q183 h hL22 eL22 rL22 => w_seq (wsr ?_))))))))
    refine oM rfl (oV (v_fi rfl GTab.f3 fd33_3 rfl (z := y7.1.types)) (oV (v_loadI ty31 rfl) (oV (v_ln (l := y7.1.types) rfl hI sl31) (oV (v_lss rfl rfl) (rnf (w_condM h rfl (fun _ h => ?_) (fun _ h => ?_)))))))
    ·refine wkf (w_seq (w_block (wsr (oV (v_fi rfl GTab.f3 fd33_3 rfl (z := y7.1.types)) (oV (v_loadI ty31 rfl) (oM rfl (cal_inv h fun y103 hy103 h => oV (v_ix (l := y7.1.types) rfl hI rfl sl31 hy103) ?_)))))))
     refine oV (v_loadI ty43 rfl) (oT (t_alloc _ ze43 fun b104 => oT (t_storeC (y' := (y103 : GTyp)) ty43 rfl rfl hI .here rfl (rl_upd (upd_imm 10 .here rfl) (rnf (w_seq (wsr (oV (v_fi rfl GTyp.f0 fd43_0 rfl (z := y103.kind)) (oV (v_loadI ty3 rfl) ?_)))))))))
     refine oV (v_lss rfl rfl) (oM rfl (rl_j (jb 78) je .nil h 4 rfl (fun q105 g105 h => ?_) (fun J106 h hJ106 => ?_)))
     ·refine oM rfl (rl_j (jb 89) je .nil h 10 rfl (fun q108 g108 h => ?_) (fun J109 h hJ109 => ?_))
      ·refine oM rfl (rl_j (jb 108) je .nil h 18 rfl (fun q114 g114 h => ?_) (fun J115 h hJ115 => ?_))
       ·refine rnf (w_condM h rfl (fun _ h => ?_) (fun _ h => ?_))
        ·refine wsr (oA rfl (rnf (w_ret (ret_nxt (ret_block (ret_nxt (rL22 _ (ret_block ?_))))))))
         refine ret_nxt ?_
         cases h
         exact ret_post (.tmp rfl .nil) .nil ⟨rfl, rfl⟩
        refine wkf (wsr (oA rfl (rnf (w_seq (wsr (oA rfl (rnf (w_block ?_))))))))
        refine w_upd (upd_tok) (w_lp (ι := (List (List Tag)) × Int) (γ := Tok) (fun q123 g123 => [(11, appv g123 (q123.1)), (12, isv (q123.2))]) (fun q123 g123 => [tokE g123]) h (none) (mod_cons (j := 11) rfl nilv_appv (mod_cons (j := 12) rfl hI mod_nil)) k1 (fun L124 q123 g123 Q182 h hL124 eL124 rL124 => w_seq (wsr (oM rfl (oV (v_fi rfl GTyp.f4 fd43_4 rfl (z := y103.fields)) (oV (v_loadI ty41 rfl) (oV (v_ln (l := y103.fields) rfl hI sl41) (oV (v_lss rfl rfl) ?_))))))))
        refine rnf (w_condM h rfl (fun _ h => ?_) (fun _ h => ?_))
        ·refine wkf (w_seq (w_block (wsr (oV (v_fi rfl GTyp.f4 fd43_4 rfl (z := y103.fields)) (oV (v_loadI ty41 rfl) (oM rfl (cal_inv h fun y153 hy153 h => oV (v_ix (l := y103.fields) rfl hI rfl sl41 hy153) ?_)))))))
         refine oV (v_loadI ty51 rfl) (oT (t_alloc _ ze51 fun b154 => oT (t_storeC (y' := (y153 : GFld)) ty51 rfl rfl hI .here rfl (rl_upd (upd_imm 13 .here rfl) (rnf (w_seq (w_seq (w_regionD (.v 0 (.v 1 (.v 2 (.v 3 (.v 4 (.v 5 (.v 6 (.v 7 (.v 8 (.v 9 (.v 10 (.v 11 (.v 12 (.v 13 (.v 14 (.v 15 (.v 16 (.v 17 (.v 18 (.v 19 (.v 20 (.v 21 (.v 22 (.v 23 (.v 24 (.v 25 (.v 26 (.v 27 (.v 28 (.v 29 (.v 30 (.v 31 (.v 32 (.v 33 (.v 34 (.v 35 (.v 36 .nil))))))))))))))))))))))))))))))))))))) moOrd (by kernel_rfl) ?_))))))))
         refine rd_v rfl (v_fi rfl GFld.f1 fd51_1 rfl (z := y153.ty)) (rd_v rfl (v_loadI ty3 rfl) (rvm rfl rfl (rd_v rfl (v_leq rfl rfl) (rvm rfl rfl (rd_j (jb 132) je .nil h 7 rfl (fun q155 g155 h => ?_) (fun J156 h hJ156 => ?_))))))
         ·refine rvm rfl rfl (rd_j (jb 149) je .nil h 16 rfl (fun q158 g158 h => ?_) (fun J159 h hJ159 => ?_))
          ·refine rvm rfl rfl (rd_j (jb 157) je .nil h 7 rfl (fun q165 g165 h => ?_) (fun J166 h hJ166 => ?_))
           ·refine rd_nil (fin_nxt (w_condM h rfl (fun _ h => ?_) (fun _ h => ?_)))
            ·refine wsr (oA rfl (rnf (w_ret (ret_nxt (ret_block (ret_nxt (rL124 _ (ret_block ?_))))))))
             refine ret_nxt (ret_block (ret_nxt (rL22 _ (ret_block (ret_nxt ?_)))))
             cases h
             exact ret_post (.tmp rfl .nil) .nil ⟨rfl, rfl⟩
            refine wkf (w_region (oM rfl (oV (v_loadI ty33 rfl) (oV (v_fi rfl GFld.f1 fd51_1 rfl (z := y153.ty)) (oV (v_loadI ty3 rfl) (cal_inv h fun y171 hy171 h => oT (t_callE (r10_Begins_w hy171) hT (s2 rfl rfl) .nil (oT (t_buildSlice (l := ([y171] : (List (List Tag)))) el44 (.cons rfl hI .nil) rfl rfl ?_)))))))))
            refine asr_inv h fun q174 h => oT (t_appC (l := q123.1) (m := ([y171] : (List (List Tag)))) ap44_44 rfl hI rfl appv_isv .here q174 fun t173 => oA rfl (rl_nil (fin_block (fin_nxt (w_region (oM rfl (ck_inv h fun q175 h => ?_)))))))
            exact oV (v_add rfl rfl q175) (oA rfl (rl_nil (hL124 _ (t173) h _ (join_imp 35 rfl rfl (mod_cons (j := 11) rfl hI (mod_cons (j := 12) rfl hI mod_nil)) k1))))
           refine rd_condM (j := 150) h rfl (fun g167 h => ?_) (fun g167 h => ?_)
           ·exact rpv 150 rfl rfl rfl g167 (rpv 150 rfl rfl rfl g167 (rpv 150 rfl rfl rfl g167 (rd_passUV rfl rfl (dj := 153) rfl (rd_passUV rfl rfl (dj := 153) rfl (rpv 150 rfl rfl rfl g167 (rd_v rfl (v_pick_t rfl g167 rfl) (hJ166 _ () h _ (jk 7 157 rfl rfl rfl))))))))
           refine rvt 150 rfl rfl rfl g167 (v_fi rfl GFld.f3 fd51_3 rfl (z := y153.has)) (rvt 150 rfl rfl rfl g167 (v_loadI ty4 rfl) (rvt 150 rfl rfl rfl g167 (v_move rfl) (rd_j (jb 156) je .nil h 3 rfl (fun q168 g168 h => ?_) (fun J169 h hJ169 => ?_))))
           ·exact rd_v rfl (v_pick_f rfl g167 rfl) (hJ166 _ () h _ (jk 5 157 rfl rfl rfl))
           refine rd_condM (j := 153) h rfl (fun g170 h => ?_) (fun g170 h => ?_)
           ·exact rvt 153 rfl rfl rfl g170 (v_fi rfl GFld.f2 fd51_2 rfl (z := y153.optional)) (rvt 153 rfl rfl rfl g170 (v_loadI ty4 rfl) (rvt 150 rfl rfl rfl g167 (v_pick_t rfl g170 rfl) (hJ169 _ () h _ (jk 3 156 rfl rfl rfl))))
           exact rpv 153 rfl rfl rfl g170 (rpv 153 rfl rfl rfl g170 (rvt 150 rfl rfl rfl g167 (v_pick_f rfl g170 rfl) (hJ169 _ () h _ (jk 3 156 rfl rfl rfl))))
          refine rd_condM (j := 133) h rfl (fun g160 h => ?_) (fun g160 h => ?_)
          ·refine rpv 133 rfl rfl rfl g160 (rpv 133 rfl rfl rfl g160 (rpv 133 rfl rfl rfl g160 (rd_passUV rfl rfl (dj := 136) rfl (rd_passUV rfl rfl (dj := 136) rfl (rd_passUV rfl rfl (dj := 136) rfl (rd_passUV rfl rfl (dj := 136) rfl (rd_passUV rfl rfl (dj := 136) rfl (rd_passUV rfl rfl (dj := 136) rfl ?_))))))))
           exact rd_passUV rfl rfl (dj := 136) rfl (rd_passUV rfl rfl (dj := 136) rfl (rd_passUV rfl rfl (dj := 136) rfl (rd_passUV rfl rfl (dj := 136) rfl (rd_passUV rfl rfl (dj := 136) rfl (rpv 133 rfl rfl rfl g160 (rd_v rfl (v_pick_t rfl g160 rfl) (hJ159 _ () h _ (jk 16 149 rfl rfl rfl))))))))
          refine rvt 133 rfl rfl rfl g160 (v_fi rfl GFld.f3 fd51_3 rfl (z := y153.has)) (rvt 133 rfl rfl rfl g160 (v_loadI ty4 rfl) (rvt 133 rfl rfl rfl g160 (v_move rfl) (rd_j (jb 148) je .nil h 12 rfl (fun q161 g161 h => ?_) (fun J162 h hJ162 => ?_))))
          ·exact rd_v rfl (v_pick_f rfl g160 rfl) (hJ159 _ () h _ (jk 5 149 rfl rfl rfl))
          refine rd_condM (j := 136) h rfl (fun g163 h => ?_) (fun g163 h => ?_)
          ·refine rvt 136 rfl rfl rfl g163 (v_fi rfl GTab.f3 fd33_3 rfl (z := y7.1.types)) (rvt 136 rfl rfl rfl g163 (v_loadI ty31 rfl) (rvt 136 rfl rfl rfl g163 (v_fi rfl GFld.f1 fd51_1 rfl (z := y153.ty)) (rvt 136 rfl rfl rfl g163 (v_loadI ty3 rfl) (cal_inv h fun y164 hy164 h => rvt 136 rfl rfl rfl g163 (v_ix (l := y7.1.types) rfl hI rfl sl31 hy164) (rvt 136 rfl rfl rfl g163 (v_fi rfl GTyp.f0 fd43_0 rfl (z := y164.kind)) (rvt 136 rfl rfl rfl g163 (v_loadI ty3 rfl) (rvt 136 rfl rfl rfl g163 (v_fi rfl GFld.f4 fd51_4 rfl (z := y153.dflt)) ?_)))))))
           exact rvt 136 rfl rfl rfl g163 (v_fi rfl Val.f0 fd49_0 rfl (z := y153.dflt.kind)) (rvt 136 rfl rfl rfl g163 (v_loadI ty3 rfl) (rvt 136 rfl rfl rfl g163 (v_neq rfl rfl) (rvt 133 rfl rfl rfl g160 (v_pick_t rfl g163 rfl) (hJ162 _ () h _ (jk 12 148 rfl rfl rfl)))))
          refine rpv 136 rfl rfl rfl g163 (rpv 136 rfl rfl rfl g163 (rpv 136 rfl rfl rfl g163 (rpv 136 rfl rfl rfl g163 (rpv 136 rfl rfl rfl g163 (rpv 136 rfl rfl rfl g163 (rpv 136 rfl rfl rfl g163 (rpv 136 rfl rfl rfl g163 (rpv 136 rfl rfl rfl g163 ?_))))))))
          exact rpv 136 rfl rfl rfl g163 (rpv 136 rfl rfl rfl g163 (rvt 133 rfl rfl rfl g160 (v_pick_f rfl g163 rfl) (hJ162 _ () h _ (jk 12 148 rfl rfl rfl))))
         refine rd_condM (j := 125) h rfl (fun g157 h => ?_) (fun g157 h => ?_)
         ·exact rpv 125 rfl rfl rfl g157 (rpv 125 rfl rfl rfl g157 (rpv 125 rfl rfl rfl g157 (rpv 125 rfl rfl rfl g157 (rpv 125 rfl rfl rfl g157 (rpv 125 rfl rfl rfl g157 (rd_v rfl (v_pick_t rfl g157 rfl) (hJ156 _ () h _ (jk 7 132 rfl rfl rfl))))))))
         exact rvt 125 rfl rfl rfl g157 (v_fi rfl GFld.f1 fd51_1 rfl (z := y153.ty)) (rvt 125 rfl rfl rfl g157 (v_loadI ty3 rfl) (rvt 125 rfl rfl rfl g157 (v_fi rfl GTab.f3 fd33_3 rfl (z := y7.1.types)) (rvt 125 rfl rfl rfl g157 (v_loadI ty31 rfl) (rvt 125 rfl rfl rfl g157 (v_ln (l := y7.1.types) rfl hI sl31) (rvt 125 rfl rfl rfl g157 (v_geq rfl rfl) (rd_v rfl (v_pick_f rfl g157 rfl) (hJ156 _ () h _ (jk 7 132 rfl rfl rfl))))))))
        refine w_exit (exi_nxt (eL124 _ _ (exi_block (fin_nxt (wsr (oV (v_fi rfl GTyp.f0 fd43_0 rfl (z := y103.kind)) (oV (v_loadI ty3 rfl) (oV (v_neq rfl rfl) ?_))))))))
        refine oM rfl (rl_j (jb 172) je .nil h 4 rfl (fun q176 g176 h => ?_) (fun J177 h hJ177 => ?_))
        ·refine rnf (w_condM h rfl (fun _ h => ?_) (fun _ h => ?_))
         ·refine wsr (oA rfl (rnf (w_ret (ret_block (ret_nxt (rL22 _ (ret_block (ret_nxt ?_))))))))
          cases h
          exact ret_post (.tmp rfl .nil) .nil ⟨rfl, rfl⟩
         refine w_skip (fin_block (fin_nxt (w_region (oM rfl (ck_inv h fun q180 h => oV (v_add rfl rfl q180) (oA rfl (rl_nil ?_)))))))
         exact hL22 _ () h _ (ji 39 9 rfl rfl rfl)
        refine rl_condM (j := 168) h rfl (fun g178 h => ?_) (fun g178 h => ?_)
        ·exact oK 168 rfl rfl rfl g178 (v_move rfl) (cal_inv h fun y179 hy179 h => op_take rfl rfl (dj := 168) rfl g178 (t_callE (r09_Distinct_w hy179) hT (.cons rfl appv_isv .nil) .nil (oK 168 rfl rfl rfl g178 (v_not rfl) (oV (v_pick_t rfl g178 rfl) (hJ177 _ () h _ (jk 4 172 rfl rfl rfl))))))
        exact oP 168 rfl rfl g178 (oP 168 rfl rfl g178 (oP 168 rfl rfl g178 (oV (v_pick_f rfl g178 rfl) (hJ177 _ () h _ (jk 4 172 rfl rfl rfl)))))
       refine rl_condM (j := 90) h rfl (fun g116 h => ?_) (fun g116 h => ?_)
       ·refine oP 90 rfl rfl g116 (oP 90 rfl rfl g116 (oP 90 rfl rfl g116 (oP 90 rfl rfl g116 (op_passU rfl (dj := 94) rfl (op_passU rfl (dj := 94) rfl (op_passU rfl (dj := 94) rfl (op_passU rfl (dj := 94) rfl (op_passU rfl (dj := 94) rfl ?_))))))))
        refine op_passU rfl (dj := 99) rfl (op_passU rfl (dj := 99) rfl (op_passU rfl (dj := 99) rfl (op_passU rfl (dj := 99) rfl (op_passU rfl (dj := 99) rfl (op_passU rfl (dj := 99) rfl (op_passU rfl (dj := 94) rfl (oP 90 rfl rfl g116 (oV (v_pick_t rfl g116 rfl) ?_))))))))
        exact hJ115 _ () h _ (ji 18 108 rfl rfl rfl)
       refine oK 90 rfl rfl rfl g116 (v_fi rfl GTyp.f0 fd43_0 rfl (z := y103.kind)) (oK 90 rfl rfl rfl g116 (v_loadI ty3 rfl) (oK 90 rfl rfl rfl g116 (v_eql rfl rfl) (oK 90 rfl rfl rfl g116 (v_move rfl) (rl_j (jb 107) je .nil h 13 rfl (fun q117 g117 h => ?_) (fun J118 h hJ118 => ?_)))))
       ·exact oV (v_pick_f rfl g116 rfl) (hJ115 _ () h _ (ji 6 108 rfl rfl rfl))
       refine rl_condM (j := 94) h rfl (fun g119 h => ?_) (fun g119 h => ?_)
       ·refine oK 94 rfl rfl rfl g119 (v_fi rfl GTyp.f7 fd43_7 rfl (z := y103.of)) (oK 94 rfl rfl rfl g119 (v_loadI ty3 rfl) (oK 94 rfl rfl rfl g119 (v_move rfl) (oK 94 rfl rfl rfl g119 (v_leq rfl rfl) (oK 94 rfl rfl rfl g119 (v_move rfl) (rl_j (jb 106) je .nil h 7 rfl (fun q120 g120 h => ?_) (fun J121 h hJ121 => ?_))))))
        ·exact oK 90 rfl rfl rfl g116 (v_pick_t rfl g119 rfl) (hJ118 _ () h _ (ji 7 107 rfl rfl rfl))
        refine rl_condM (j := 99) h rfl (fun g122 h => ?_) (fun g122 h => ?_)
        ·exact oP 99 rfl rfl g122 (oP 99 rfl rfl g122 (oP 99 rfl rfl g122 (oP 99 rfl rfl g122 (oP 99 rfl rfl g122 (oP 99 rfl rfl g122 (oK 94 rfl rfl rfl g119 (v_pick_t rfl g122 rfl) (hJ121 _ () h _ (ji 7 106 rfl rfl rfl))))))))
        exact oK 99 rfl rfl rfl g122 (v_fi rfl GTyp.f7 fd43_7 rfl (z := y103.of)) (oK 99 rfl rfl rfl g122 (v_loadI ty3 rfl) (oK 99 rfl rfl rfl g122 (v_fi rfl GTab.f3 fd33_3 rfl (z := y7.1.types)) (oK 99 rfl rfl rfl g122 (v_loadI ty31 rfl) (oK 99 rfl rfl rfl g122 (v_ln (l := y7.1.types) rfl hI sl31) (oK 99 rfl rfl rfl g122 (v_geq rfl rfl) (oK 94 rfl rfl rfl g119 (v_pick_f rfl g122 rfl) (hJ121 _ () h _ (ji 7 106 rfl rfl rfl))))))))
       refine oP 94 rfl rfl g119 (oP 94 rfl rfl g119 (oP 94 rfl rfl g119 (oP 94 rfl rfl g119 (oP 94 rfl rfl g119 (op_passU rfl (dj := 99) rfl (op_passU rfl (dj := 99) rfl (op_passU rfl (dj := 99) rfl (op_passU rfl (dj := 99) rfl ?_))))))))
       exact op_passU rfl (dj := 99) rfl (op_passU rfl (dj := 99) rfl (oP 94 rfl rfl g119 (oK 90 rfl rfl rfl g116 (v_pick_f rfl g119 rfl) (hJ118 _ () h _ (ji 13 107 rfl rfl rfl)))))
      refine rl_condM (j := 79) h rfl (fun g110 h => ?_) (fun g110 h => ?_)
      ·refine oP 79 rfl rfl g110 (oP 79 rfl rfl g110 (oP 79 rfl rfl g110 (oP 79 rfl rfl g110 (op_passU rfl (dj := 83) rfl (op_passU rfl (dj := 83) rfl (op_passU rfl (dj := 83) rfl (op_passU rfl (dj := 83) rfl (oP 79 rfl rfl g110 ?_))))))))
       exact oV (v_pick_t rfl g110 rfl) (hJ109 _ () h _ (ji 10 89 rfl rfl rfl))
      refine oK 79 rfl rfl rfl g110 (v_fi rfl GTyp.f0 fd43_0 rfl (z := y103.kind)) (oK 79 rfl rfl rfl g110 (v_loadI ty3 rfl) (oK 79 rfl rfl rfl g110 (v_neq rfl rfl) (oK 79 rfl rfl rfl g110 (v_move rfl) (rl_j (jb 88) je .nil h 5 rfl (fun q111 g111 h => ?_) (fun J112 h hJ112 => ?_)))))
      ·exact oV (v_pick_f rfl g110 rfl) (hJ109 _ () h _ (ji 6 89 rfl rfl rfl))
      refine rl_condM (j := 83) h rfl (fun g113 h => ?_) (fun g113 h => ?_)
      ·exact oK 83 rfl rfl rfl g113 (v_fi rfl GTyp.f1 fd43_1 rfl (z := y103.tags)) (oK 83 rfl rfl rfl g113 (v_loadI ty37 rfl) (oK 83 rfl rfl rfl g113 (v_ln (l := y103.tags) rfl hI sl37) (oK 83 rfl rfl rfl g113 (v_eql rfl rfl) (oK 79 rfl rfl rfl g110 (v_pick_t rfl g113 rfl) (hJ112 _ () h _ (ji 5 88 rfl rfl rfl))))))
      exact oP 83 rfl rfl g113 (oP 83 rfl rfl g113 (oP 83 rfl rfl g113 (oP 83 rfl rfl g113 (oK 79 rfl rfl rfl g110 (v_pick_f rfl g113 rfl) (hJ112 _ () h _ (ji 5 88 rfl rfl rfl))))))
     refine rl_condM (j := 74) h rfl (fun g107 h => ?_) (fun g107 h => ?_)
     ·exact oP 74 rfl rfl g107 (oP 74 rfl rfl g107 (oP 74 rfl rfl g107 (oV (v_pick_t rfl g107 rfl) (hJ106 _ () h _ (ji 4 78 rfl rfl rfl)))))
     exact oK 74 rfl rfl rfl g107 (v_fi rfl GTyp.f0 fd43_0 rfl (z := y103.kind)) (oK 74 rfl rfl rfl g107 (v_loadI ty3 rfl) (oK 74 rfl rfl rfl g107 (v_gtr rfl rfl) (oV (v_pick_f rfl g107 rfl) (hJ106 _ () h _ (ji 4 78 rfl rfl rfl)))))
    refine w_exit (exi_nxt (eL22 _ _ (exi_block (fin_nxt (wsr (oA rfl (rnf (w_ret ?_))))))))
    cases h
    exact ret_post (.tmp rfl .nil) .nil ⟨rfl, rfl⟩
   refine rl_condM (j := 50) h rfl (fun g20 h => ?_) (fun g20 h => ?_)
   ·exact oP 50 rfl rfl g20 (oP 50 rfl rfl g20 (oP 50 rfl rfl g20 (oP 50 rfl rfl g20 (oP 50 rfl rfl g20 (oP 50 rfl rfl g20 (oP 50 rfl rfl g20 (oV (v_pick_t rfl g20 rfl) (hJ19 _ () h _ (ji 8 58 rfl rfl rfl)))))))))
   exact oK 50 rfl rfl rfl g20 (v_fi rfl GTab.f2 fd33_2 rfl (z := y7.1.roots)) (oK 50 rfl rfl rfl g20 (v_loadI ty23 rfl) (oK 50 rfl rfl rfl g20 (v_ln (l := y7.1.roots) rfl hI sl23) (oK 50 rfl rfl rfl g20 (v_fi rfl GTab.f1 fd33_1 rfl (z := y7.1.names)) (oK 50 rfl rfl rfl g20 (v_loadI ty22 rfl) (oK 50 rfl rfl rfl g20 (v_ln (l := y7.1.names) rfl hI sl22) (oK 50 rfl rfl rfl g20 (v_neq rfl rfl) (oV (v_pick_f rfl g20 rfl) (hJ19 _ () h _ (ji 8 58 rfl rfl rfl)))))))))
  refine rl_condM (j := 36) h rfl (fun g12 h => ?_) (fun g12 h => ?_)
  ·exact oP 36 rfl rfl g12 (oP 36 rfl rfl g12 (oV (v_pick_t rfl g12 rfl) (hJ11 _ () h _ (ji 3 39 rfl rfl rfl))))
  exact oK 36 rfl rfl rfl g12 (v_move rfl) (oK 36 rfl rfl rfl g12 (v_neq rfl rfl) (oV (v_pick_f rfl g12 rfl) (hJ11 _ () h _ (ji 3 39 rfl rfl rfl))))
 refine rl_condM (j := 23) h rfl (fun g5 h => ?_) (fun g5 h => ?_)
 ·exact oP 23 rfl rfl g5 (oP 23 rfl rfl g5 (oV (v_pick_t rfl g5 rfl) (hJ4 _ () h _ (ji 3 26 rfl rfl rfl))))
 exact oK 23 rfl rfl rfl g5 (v_move rfl) (oK 23 rfl rfl rfl g5 (v_neq rfl rfl) (oV (v_pick_f rfl g5 rfl) (hJ4 _ () h _ (ji 3 26 rfl rfl rfl))))

end Go.Proofs.YtiibmpdjkdjbiaaGreatDoor

