/- Walks, printed by mill.py. -/
import Derived.Test.YtiibmpdjkdjbiaaGreatDoorTrA
import Derived.Test.YtiibmpdjkdjbiaaGreatDoorTrB
import Derived.Test.YtiibmpdjkdjbiaaGreatDoorTrC
import Derived.Test.YtiibmpdjkdjbiaaGreatDoorTrD
set_option linter.unusedVariables false
set_option linter.unusedSimpArgs false

namespace Go.Proofs.YtiibmpdjkdjbiaaGreatDoor
open Go.Sy
set_option maxRecDepth 4000
theorem table_Find_w : ∀ {a_t : GTab} {a_name : Str} {r : Int}, table_Find a_t a_name = some r → Ctr Tryz.prog 23 [isv (a_t), isv (a_name)] [] (fun R H => R = oneOf [isv (r)] ∧ H = []) := by
 intro a_t a_name r h
 unfold table_Find at h
 refine spec_intro Tryz.func23 rfl (by decide +kernel) (by rfl) fun w0 S0 hT => ?_
 refine wsr (oT (t_boxIC (y := a_t) rfl (fun _ _ h => h) (oA rfl (rnf (wsr ?_)))))
 refine oV (v_fi rfl GTab.f1 fd33_1 rfl (z := a_t.names)) (oV (v_loadI ty22 rfl) (oM rfl (cal_inv h fun y1 hy1 h => oT (t_call (slices_Index_Lstring_string_w hy1) hT (.same rfl (.same rfl .nil)) .nil (fun R H' hR => ?_)))))
 obtain ⟨rfl, rfl⟩ := hR
 refine oA rfl (rnf (w_seq (wsr (oM rfl ?_))))
 refine oV (v_lss rfl rfl) (oM rfl (rl_j (jb 18) je .nil h 6 rfl (fun q2 g2 h => ?_) (fun J3 h hJ3 => ?_)))
 ·
  refine rnf (w_condM h rfl (fun _ h => ?_) (fun _ h => ?_))
  ·
   refine wsr (oA rfl (rnf (w_ret (ret_nxt ?_))))
   refine ret_post (.tmp rfl .nil) .nil ?_
   obtain rfl := Option.some.inj h
   exact ⟨rfl, rfl⟩
  ·
   refine wkf (wsr (oV (v_fi rfl GTab.f2 fd33_2 rfl (z := a_t.roots)) (oV (v_loadI ty23 rfl) (oM rfl ?_))))
   refine cal_inv h fun y5 hy5 h => oV (v_ix (l := a_t.roots) rfl (fun _ _ h => h) rfl sl23 hy5) (oV (v_loadI ty3 rfl) (oA rfl (rnf ?_)))
   refine w_ret (ret_post (.tmp rfl .nil) .nil ?_)
   obtain rfl := Option.some.inj h
   exact ⟨rfl, rfl⟩
 ·
  refine rl_condM (j := 12) h rfl (fun g4 h => ?_) (fun g4 h => ?_)
  ·
   refine oP 12 rfl rfl g4 (oP 12 rfl rfl g4 (oP 12 rfl rfl g4 (oP 12 rfl rfl g4 (oP 12 rfl rfl g4 ?_))))
   exact oV (v_pick_t rfl g4 rfl) (hJ3 _ () h _ (ji 6 18 rfl rfl rfl))
  ·
   refine oK 12 rfl rfl rfl g4 (v_move rfl) (oK 12 rfl rfl rfl g4 (v_fi rfl GTab.f2 fd33_2 rfl (z := a_t.roots)) (oK 12 rfl rfl rfl g4 (v_loadI ty23 rfl) (oK 12 rfl rfl rfl g4 (v_ln (l := a_t.roots) rfl (fun _ _ h => h) sl23) (oK 12 rfl rfl rfl g4 (v_geq rfl rfl) ?_))))
   exact oV (v_pick_f rfl g4 rfl) (hJ3 _ () h _ (ji 6 18 rfl rfl rfl))


theorem law10_awake_w : ∀  {r : Bool}, law10_awake  = some r → Ctr Tryz.prog 12 [] [] (fun R H => R = oneOf [isv (r)] ∧ H = []) := by
 intro  r h
 unfold law10_awake at h
 refine spec_intro Tryz.func12 rfl (by decide +kernel) (by rfl) fun w0 S0 hT => ?_
 refine wsr (oA rfl (rnf (wsr (cal_inv h fun y1 hy1 h => ?_))))
 refine oT (t_call (r05_Parse_w hy1) hT (.same rfl .nil) .nil (fun R H' hR => ?_))
 obtain ⟨rfl, rfl⟩ := hR
 refine oM rfl (oV (v_extract rfl rfl) (oV (v_extract rfl rfl) (oV (v_extract rfl rfl) (oT (t_alloc _ ze26 fun b2 => ?_)))))
 refine oT (t_storeC (y' := (y1.1 : GMod)) ty26 rfl rfl (fun _ _ h => h) .here rfl (rl_upd (upd_imm 1 .here rfl) (oA rfl (oA rfl (rnf ?_)))))
 refine wsr (oV (v_loadI ty26 rfl) (cal_inv h fun y3 hy3 h => oT (t_call (table_Make_w hy3) hT (.same rfl .nil) .nil (fun R H' hR => ?_))))
 obtain ⟨rfl, rfl⟩ := hR
 refine oM rfl (oV (v_extract rfl rfl) (oV (v_extract rfl rfl) (oV (v_extract rfl rfl) (oT (t_alloc _ ze33 fun b4 => ?_)))))
 refine oT (t_storeC (y' := (y3.1 : GTab)) ty33 rfl rfl (fun _ _ h => h) .here rfl (rl_upd (upd_imm 4 .here rfl) (oA rfl (oA rfl (rnf ?_)))))
 refine wsr (oM rfl (oV (v_eql rfl rfl) (oM rfl (rl_j (jb 25) je .nil h 5 rfl (fun q5 g5 h => ?_) (fun J6 h hJ6 => ?_)))))
 ·
  refine oM rfl (rl_j (jb 30) je .nil h 4 rfl (fun q8 g8 h => ?_) (fun J9 h hJ9 => ?_))
  ·
   refine oM rfl (rl_j (jb 39) je .nil h 8 rfl (fun q12 g12 h => ?_) (fun J13 h hJ13 => ?_))
   ·
    refine oA rfl (rnf (w_ret (ret_post (.tmp rfl .nil) .nil ?_)))
    obtain rfl := Option.some.inj h
    exact ⟨rfl, rfl⟩
   ·
    refine rl_condM (j := 31) h rfl (fun g14 h => ?_) (fun g14 h => ?_)
    ·
     refine oK 31 rfl rfl rfl g14 (v_fi rfl GTab.f3 fd33_3 rfl (z := y3.1.types)) (oK 31 rfl rfl rfl g14 (v_loadI ty31 rfl) (cal_inv h fun y15 hy15 h => oK 31 rfl rfl rfl g14 (v_ix (l := y3.1.types) rfl (fun _ _ h => h) rfl sl31 hy15) (oK 31 rfl rfl rfl g14 (v_fi rfl GTyp.f1 fd43_1 rfl (z := y15.tags)) ?_)))
     exact oK 31 rfl rfl rfl g14 (v_loadI ty37 rfl) (oK 31 rfl rfl rfl g14 (v_ln (l := y15.tags) rfl (fun _ _ h => h) sl37) (oK 31 rfl rfl rfl g14 (v_eql rfl rfl) (oV (v_pick_t rfl g14 rfl) (hJ13 _ () h _ (ji 8 39 rfl rfl rfl)))))
    ·
     refine oP 31 rfl rfl g14 (oP 31 rfl rfl g14 (oP 31 rfl rfl g14 (oP 31 rfl rfl g14 (oP 31 rfl rfl g14 ?_))))
     exact oP 31 rfl rfl g14 (oP 31 rfl rfl g14 (oV (v_pick_f rfl g14 rfl) (hJ13 _ () h _ (ji 8 39 rfl rfl rfl))))
  ·
   refine rl_condM (j := 26) h rfl (fun g10 h => ?_) (fun g10 h => ?_)
   ·
    refine oK 26 rfl rfl rfl g10 (v_loadI ty33 rfl) (cal_inv h fun y11 hy11 h => op_take rfl rfl (dj := 26) rfl g10 (t_call (table_Find_w hy11) hT (.same rfl (.same rfl .nil)) .nil (fun R H' hR => ?_)))
    obtain ⟨rfl, rfl⟩ := hR
    exact oK 26 rfl rfl rfl g10 (v_eql rfl rfl) (oV (v_pick_t rfl g10 rfl) (hJ9 _ () h _ (ji 4 30 rfl rfl rfl)))
   ·
    exact oP 26 rfl rfl g10 (oP 26 rfl rfl g10 (oP 26 rfl rfl g10 (oV (v_pick_f rfl g10 rfl) (hJ9 _ () h _ (ji 4 30 rfl rfl rfl)))))
 ·
  refine rl_condM (j := 20) h rfl (fun g7 h => ?_) (fun g7 h => ?_)
  ·
   refine oK 20 rfl rfl rfl g7 (v_fi rfl GTab.f3 fd33_3 rfl (z := y3.1.types)) (oK 20 rfl rfl rfl g7 (v_loadI ty31 rfl) (oK 20 rfl rfl rfl g7 (v_ln (l := y3.1.types) rfl (fun _ _ h => h) sl31) (oK 20 rfl rfl rfl g7 (v_eql rfl rfl) (oV (v_pick_t rfl g7 rfl) ?_))))
   exact hJ6 _ () h _ (ji 5 25 rfl rfl rfl)
  ·
   refine oP 20 rfl rfl g7 (oP 20 rfl rfl g7 (oP 20 rfl rfl g7 (oP 20 rfl rfl g7 (oV (v_pick_f rfl g7 rfl) ?_))))
   exact hJ6 _ () h _ (ji 5 25 rfl rfl rfl)

end Go.Proofs.YtiibmpdjkdjbiaaGreatDoor


namespace Go.Proofs.YtiibmpdjkdjbiaaGreatDoor
open Go.Sy
set_option maxRecDepth 4000
def h_Digits_C (f' : UInt64 → Option (Str)) : Prop :=
 ∀ {a_v : UInt64} {r : Str}, f' a_v = some r → Ctr Tryz.prog 17 [isv (a_v)] [] (fun R H => R = oneOf [isv (r)] ∧ H = [])
theorem h_Digits_w0 {h_Digits' : UInt64 → Option (Str)} (h_h_Digits : h_Digits_C h_Digits') : ∀ {a_v : UInt64} {r : Str}, h_Digits_F h_Digits' a_v = some r → Ctr Tryz.prog 17 [isv (a_v)] [] (fun R H => R = oneOf [isv (r)] ∧ H = []) := by
 intro a_v r h
 unfold h_Digits_F at h
 refine spec_intro Tryz.func17 rfl (by decide +kernel) (by rfl) fun w0 S0 hT => ?_
 refine wsr (oA rfl (rnf (w_seq (wsr ?_))))
 refine oM rfl (oV (v_lss64 rfl rfl) (rnf (w_condM h rfl (fun _ h => ?_) (fun _ h => ?_))))
 ·
  refine wsr (oM rfl (oV (v_add64 rfl rfl) (oV (v_u64u8 Tryz.underlying58 Tryz.underlying5 rfl) (oT (t_buildSlice (l := ([((48 : UInt64) + a_v).toUInt8] : (List UInt8))) el45 (.cons rfl (fun _ _ h => h) .nil) rfl rfl ?_)))))
  refine oV (v_bs (l := ([((48 : UInt64) + a_v).toUInt8] : (List UInt8))) Tryz.underlying45 Tryz.underlying5 Tryz.underlying9 rfl appv_isv) (oA rfl (rnf (w_ret (ret_nxt ?_))))
  refine ret_post (.tmp rfl .nil) .nil ?_
  obtain rfl := Option.some.inj h
  exact ⟨rfl, rfl⟩
 ·
  refine wkf (w_seq (w_J (ι := Str) (γ := Unit) (fun q2 g2 => [(2, isv (q2))]) (fun q2 g2 => []) .nil h (fun q2 g2 h => ?_) (fun J3 h hJ3 => ?_)))
  ·
   refine w_ret (ret_post (.tmp rfl .nil) .nil ?_)
   obtain rfl := Option.some.inj h
   exact ⟨rfl, rfl⟩
  ·
   refine w_regionD (.v 0 (.v 1 (.v 3 (.v 4 (.v 5 (.v 6 (.alt 2 (.t 7 (.v 8 (.v 9 (.v 10 .nil)))) (.t 7 (.v 8 (.t 2 (.v 9 (.v 10 .nil)))))))))))) moOrd (by kernel_rfl) ?_
   refine rvm rfl rfl (asr_inv h fun q4 h => rd_v rfl (v_quo64 rfl rfl q4) (rvm rfl rfl (asr_inv h fun q5 h => ?_)))
   refine rd_v rfl (v_rem64 rfl rfl q5) (rd_v rfl (v_add64 rfl rfl) (rd_v rfl (v_u64u8 Tryz.underlying58 Tryz.underlying5 rfl) (cal_inv h fun y6 hy6 h => asr_inv h fun q8 h => ?_)))
   refine rd_two ?_ ?_
   ·
    refine rd_t rfl rfl (t_call (h_h_Digits hy6) hT (.same rfl .nil) .nil (fun R H' hR => ?_))
    obtain ⟨rfl, rfl⟩ := hR
    refine rd_t rfl rfl (t_buildSlice (l := ([((48 : UInt64) + (a_v % (10 : UInt64))).toUInt8] : (List UInt8))) el45 (.cons rfl (fun _ _ h => h) .nil) rfl rfl (rd_v rfl (v_bs (l := ([((48 : UInt64) + (a_v % (10 : UInt64))).toUInt8] : (List UInt8))) Tryz.underlying45 Tryz.underlying5 Tryz.underlying9 rfl appv_isv) (rd_v rfl (v_cat rfl rfl q8) (rd_v rfl (v_assign rfl) (rd_nil ?_)))))
    exact hJ3 _ () h _ (ji 11 2 rfl rfl rfl)
   ·
    refine rd_t rfl rfl (t_buildSlice (l := ([((48 : UInt64) + (a_v % (10 : UInt64))).toUInt8] : (List UInt8))) el45 (.cons rfl (fun _ _ h => h) .nil) rfl rfl (rd_v rfl (v_bs (l := ([((48 : UInt64) + (a_v % (10 : UInt64))).toUInt8] : (List UInt8))) Tryz.underlying45 Tryz.underlying5 Tryz.underlying9 rfl appv_isv) (rd_t rfl rfl (t_call (h_h_Digits hy6) hT (.same rfl .nil) .nil (fun R H' hR => ?_)))))
    obtain ⟨rfl, rfl⟩ := hR
    exact rd_v rfl (v_cat rfl rfl q8) (rd_v rfl (v_assign rfl) (rd_nil (hJ3 _ () h _ (ji 11 2 rfl rfl rfl))))

theorem h_Digits_grp_w : ∀ n, h_Digits_C (h_Digits n)
 | 0 => fun h => (by cases h)
 | n + 1 => h_Digits_w0 (h_Digits_grp_w n)
theorem h_Digits_w (n : Nat) : h_Digits_C (h_Digits n) := (h_Digits_grp_w n)

theorem h_Plain_api_Tag_c1_w : ∀ {a_x : Tag} {a_y : Tag} {r : Bool}, h_Plain_api_Tag_c1 a_x a_y = some r → Ctr Tryz.prog 44 [isv (a_x), isv (a_y)] [] (fun R H => R = oneOf [isv (r)] ∧ H = []) := by
 intro a_x a_y r h
 unfold h_Plain_api_Tag_c1 at h
 refine spec_intro Tryz.func44 rfl (by decide +kernel) (by rfl) fun w0 S0 hT => ?_
 refine wsr (oT (t_boxIC (y := a_x) rfl (fun _ _ h => h) (oT (t_boxIC (y := a_y) rfl (fun _ _ h => h) (oA rfl (rnf ?_))))))
 refine wsr (oV (v_loadI ty66 rfl) (oV (v_loadI ty66 rfl) (oV (v_eqA eq66 rfl rfl) (oA rfl ?_))))
 refine rnf (w_ret (ret_post (.tmp rfl .nil) .nil ?_))
 obtain rfl := Option.some.inj h
 exact ⟨rfl, rfl⟩


theorem h_Same_api_Tag_w : ∀ {a_a : (List Tag)} {a_b : (List Tag)} {r : Bool}, h_Same_api_Tag a_a a_b = some r → Ctr Tryz.prog 43 [isv (a_a), isv (a_b), clov 44 []] [] (fun R H => R = oneOf [isv (r)] ∧ H = []) := by
 intro a_a a_b r h
 unfold h_Same_api_Tag at h
 refine spec_intro Tryz.func43 rfl (by decide +kernel) (by rfl) fun w0 S0 hT => ?_
 refine wsr (oA rfl (rnf (w_seq (wsr ?_))))
 refine oM rfl (oV (v_ln (l := a_a) rfl (fun _ _ h => h) sl37) (oM rfl (oV (v_ln (l := a_b) rfl (fun _ _ h => h) sl37) (oV (v_neq rfl rfl) ?_))))
 refine rnf (w_condM h rfl (fun _ h => ?_) (fun _ h => ?_))
 ·
  refine wsr (oA rfl (rnf (w_ret (ret_nxt ?_))))
  refine ret_post (.tmp rfl .nil) .nil ?_
  obtain rfl := Option.some.inj h
  exact ⟨rfl, rfl⟩
 ·
  refine wkf (w_seq (wsr (oA rfl (rnf ?_))))
  refine w_block (w_lp (ι := Int) (γ := Unit) (fun q1 g1 => [(7, isv (q1))]) (fun q1 g1 => []) h () (mod_cons (j := 7) rfl (fun _ _ h => h) mod_nil) .nil (fun L2 q1 g1 Q11 h hL2 eL2 rL2 => w_seq (wsr (oM rfl ?_))))
  refine oM rfl (oV (v_ln (l := a_a) rfl (fun _ _ h => h) sl37) (oV (v_lss rfl rfl) (rnf (w_condM h rfl (fun _ h => ?_) (fun _ h => ?_)))))
  ·
   refine wkf (w_seq (w_block (w_seq (w_regionD (.v 0 (.v 1 (.v 2 (.v 3 (.v 4 (.v 5 (.v 6 (.v 7 (.v 8 (.t 9 (.v 10 .nil))))))))))) moOrd (by kernel_rfl) ?_))))
   refine rvm rfl rfl (rvm rfl rfl (rvm rfl rfl (cal_inv h fun y7 hy7 h => rd_v rfl (v_ix (l := a_a) rfl (fun _ _ h => h) rfl sl37 hy7) ?_)))
   refine rd_v rfl (v_loadI ty66 rfl) (rvm rfl rfl (rvm rfl rfl (cal_inv h fun y8 hy8 h => rd_v rfl (v_ix (l := a_b) rfl (fun _ _ h => h) rfl sl37 hy8) ?_)))
   refine rd_v rfl (v_loadI ty66 rfl) (cal_inv h fun y9 hy9 h => rd_t rfl rfl (t_callC rfl (.same rfl (.same rfl .nil)) (h_Plain_api_Tag_c1_w hy9) hT .nil (fun R H' hR => ?_)))
   obtain ⟨rfl, rfl⟩ := hR
   refine rd_v rfl (v_not rfl) (rd_nil (fin_nxt (w_condM h rfl (fun _ h => ?_) (fun _ h => ?_))))
   ·
    refine wsr (oA rfl (rnf (w_ret (ret_block ?_))))
    refine ret_nxt (rL2 _ (ret_block (ret_nxt (ret_post (.tmp rfl .nil) .nil ?_))))
    obtain rfl := Option.some.inj h
    exact ⟨rfl, rfl⟩
   ·
    refine w_skip (fin_block (fin_nxt (w_region (oM rfl ?_))))
    exact ck_inv h fun q10 h => oV (v_add rfl rfl q10) (oA rfl (rl_nil (hL2 _ () h _ (ji 19 7 rfl rfl rfl))))
  ·
   refine w_exit (exi_nxt (eL2 _ _ (exi_block (fin_nxt ?_))))
   refine wsr (oA rfl (rnf (w_ret (ret_post (.tmp rfl .nil) .nil ?_))))
   obtain rfl := Option.some.inj h
   exact ⟨rfl, rfl⟩


theorem h_Plain_api_Tag_w : ∀ {a_a : (List Tag)} {a_b : (List Tag)} {r : Bool}, h_Plain_api_Tag a_a a_b = some r → Ctr Tryz.prog 21 [isv (a_a), isv (a_b)] [] (fun R H => R = oneOf [isv (r)] ∧ H = []) := by
 intro a_a a_b r h
 unfold h_Plain_api_Tag at h
 refine spec_intro Tryz.func21 rfl (by decide +kernel) (by rfl) fun w0 S0 hT => ?_
 refine wsr (oA rfl (rnf (wsr (oM rfl ?_))))
 refine oM rfl (cal_inv h fun y1 hy1 h => oT (t_call (h_Same_api_Tag_w hy1) hT (.same rfl (.same rfl (.same rfl .nil))) .nil (fun R H' hR => ?_)))
 obtain ⟨rfl, rfl⟩ := hR
 refine oA rfl (rnf (w_ret (ret_post (.tmp rfl .nil) .nil ?_)))
 obtain rfl := Option.some.inj h
 exact ⟨rfl, rfl⟩


theorem h_Plain_api_Item_c1_w : ∀ {a_x : GItem} {a_y : GItem} {r : Bool}, h_Plain_api_Item_c1 a_x a_y = some r → Ctr Tryz.prog 47 [isv (a_x), isv (a_y)] [] (fun R H => R = oneOf [isv (r)] ∧ H = []) := by
 intro a_x a_y r h
 unfold h_Plain_api_Item_c1 at h
 refine spec_intro Tryz.func47 rfl (by decide +kernel) (by rfl) fun w0 S0 hT => ?_
 refine wsr (oT (t_boxIC (y := a_x) rfl (fun _ _ h => h) (oT (t_boxIC (y := a_y) rfl (fun _ _ h => h) (oA rfl (rnf ?_))))))
 refine wsr (oV (v_loadI ty63 rfl) (oV (v_loadI ty63 rfl) (oV (v_eqA eq63 rfl rfl) (oA rfl ?_))))
 refine rnf (w_ret (ret_post (.tmp rfl .nil) .nil ?_))
 obtain rfl := Option.some.inj h
 exact ⟨rfl, rfl⟩


theorem h_Same_api_Item_w : ∀ {a_a : (List GItem)} {a_b : (List GItem)} {r : Bool}, h_Same_api_Item a_a a_b = some r → Ctr Tryz.prog 46 [isv (a_a), isv (a_b), clov 47 []] [] (fun R H => R = oneOf [isv (r)] ∧ H = []) := by
 intro a_a a_b r h
 unfold h_Same_api_Item at h
 refine spec_intro Tryz.func46 rfl (by decide +kernel) (by rfl) fun w0 S0 hT => ?_
 refine wsr (oA rfl (rnf (w_seq (wsr ?_))))
 refine oM rfl (oV (v_ln (l := a_a) rfl (fun _ _ h => h) sl40) (oM rfl (oV (v_ln (l := a_b) rfl (fun _ _ h => h) sl40) (oV (v_neq rfl rfl) ?_))))
 refine rnf (w_condM h rfl (fun _ h => ?_) (fun _ h => ?_))
 ·
  refine wsr (oA rfl (rnf (w_ret (ret_nxt ?_))))
  refine ret_post (.tmp rfl .nil) .nil ?_
  obtain rfl := Option.some.inj h
  exact ⟨rfl, rfl⟩
 ·
  refine wkf (w_seq (wsr (oA rfl (rnf ?_))))
  refine w_block (w_lp (ι := Int) (γ := Unit) (fun q1 g1 => [(7, isv (q1))]) (fun q1 g1 => []) h () (mod_cons (j := 7) rfl (fun _ _ h => h) mod_nil) .nil (fun L2 q1 g1 Q11 h hL2 eL2 rL2 => w_seq (wsr (oM rfl ?_))))
  refine oM rfl (oV (v_ln (l := a_a) rfl (fun _ _ h => h) sl40) (oV (v_lss rfl rfl) (rnf (w_condM h rfl (fun _ h => ?_) (fun _ h => ?_)))))
  ·
   refine wkf (w_seq (w_block (w_seq (w_regionD (.v 0 (.v 1 (.v 2 (.v 3 (.v 4 (.v 5 (.v 6 (.v 7 (.v 8 (.t 9 (.v 10 .nil))))))))))) moOrd (by kernel_rfl) ?_))))
   refine rvm rfl rfl (rvm rfl rfl (rvm rfl rfl (cal_inv h fun y7 hy7 h => rd_v rfl (v_ix (l := a_a) rfl (fun _ _ h => h) rfl sl40 hy7) ?_)))
   refine rd_v rfl (v_loadI ty63 rfl) (rvm rfl rfl (rvm rfl rfl (cal_inv h fun y8 hy8 h => rd_v rfl (v_ix (l := a_b) rfl (fun _ _ h => h) rfl sl40 hy8) ?_)))
   refine rd_v rfl (v_loadI ty63 rfl) (cal_inv h fun y9 hy9 h => rd_t rfl rfl (t_callC rfl (.same rfl (.same rfl .nil)) (h_Plain_api_Item_c1_w hy9) hT .nil (fun R H' hR => ?_)))
   obtain ⟨rfl, rfl⟩ := hR
   refine rd_v rfl (v_not rfl) (rd_nil (fin_nxt (w_condM h rfl (fun _ h => ?_) (fun _ h => ?_))))
   ·
    refine wsr (oA rfl (rnf (w_ret (ret_block ?_))))
    refine ret_nxt (rL2 _ (ret_block (ret_nxt (ret_post (.tmp rfl .nil) .nil ?_))))
    obtain rfl := Option.some.inj h
    exact ⟨rfl, rfl⟩
   ·
    refine w_skip (fin_block (fin_nxt (w_region (oM rfl ?_))))
    exact ck_inv h fun q10 h => oV (v_add rfl rfl q10) (oA rfl (rl_nil (hL2 _ () h _ (ji 19 7 rfl rfl rfl))))
  ·
   refine w_exit (exi_nxt (eL2 _ _ (exi_block (fin_nxt ?_))))
   refine wsr (oA rfl (rnf (w_ret (ret_post (.tmp rfl .nil) .nil ?_))))
   obtain rfl := Option.some.inj h
   exact ⟨rfl, rfl⟩


theorem h_Plain_api_Item_w : ∀ {a_a : (List GItem)} {a_b : (List GItem)} {r : Bool}, h_Plain_api_Item a_a a_b = some r → Ctr Tryz.prog 25 [isv (a_a), isv (a_b)] [] (fun R H => R = oneOf [isv (r)] ∧ H = []) := by
 intro a_a a_b r h
 unfold h_Plain_api_Item at h
 refine spec_intro Tryz.func25 rfl (by decide +kernel) (by rfl) fun w0 S0 hT => ?_
 refine wsr (oA rfl (rnf (wsr (oM rfl ?_))))
 refine oM rfl (cal_inv h fun y1 hy1 h => oT (t_call (h_Same_api_Item_w hy1) hT (.same rfl (.same rfl (.same rfl .nil))) .nil (fun R H' hR => ?_)))
 obtain ⟨rfl, rfl⟩ := hR
 refine oA rfl (rnf (w_ret (ret_post (.tmp rfl .nil) .nil ?_)))
 obtain rfl := Option.some.inj h
 exact ⟨rfl, rfl⟩

end Go.Proofs.YtiibmpdjkdjbiaaGreatDoor


namespace Go.Proofs.YtiibmpdjkdjbiaaGreatDoor
open Go.Sy
set_option maxRecDepth 4000
theorem law10_made_w : ∀ {a_tagging : Str} {a_t : Str} {r : GTab × Int × Int}, law10_made a_tagging a_t = some r → Ctr Tryz.prog 22 [isv (a_tagging), isv (a_t)] [] (fun R H => R = oneOf [isv (r.1), isv (r.2.1), isv (r.2.2)] ∧ H = []) := by
 intro a_tagging a_t r h
 unfold law10_made at h
 refine spec_intro Tryz.func22 rfl (by decide +kernel) (by rfl) fun w0 S0 hT => ?_
 refine wsr (oT (t_alloc _ ze33 fun b1 => oA rfl (oA rfl (rnf ?_))))
 refine wsr (oM rfl (asr_inv h fun q2 h => oV (v_cat rfl rfl q2) (asr_inv h fun q3 h => ?_)))
 refine oV (v_cat rfl rfl q3) (oM rfl (asr_inv h fun q4 h => oV (v_cat rfl rfl q4) (asr_inv h fun q5 h => ?_)))
 refine oV (v_cat rfl rfl q5) (cal_inv h fun y6 hy6 h => oT (t_call (r05_Parse_w hy6) hT (.same rfl .nil) .nil (fun R H' hR => ?_)))
 obtain ⟨rfl, rfl⟩ := hR
 refine oM rfl (oV (v_extract rfl rfl) (oV (v_extract rfl rfl) (oV (v_extract rfl rfl) (oT (t_alloc _ ze26 fun b7 => ?_)))))
 refine oT (t_storeC (y' := (y6.1 : GMod)) ty26 rfl rfl (fun _ _ h => h) .here rfl (rl_upd (upd_imm 7 .here rfl) (oA rfl (oA rfl (rnf ?_)))))
 refine w_seq (wsr (oM rfl (oV (v_neq rfl rfl) (rnf ?_))))
 refine w_condM h rfl (fun _ h => ?_) (fun _ h => ?_)
 ·
  refine wsr (oV (v_build (z := (GTab.mk (Str.mk []) ([] : (List Str)) ([] : (List Int)) ([] : (List GTyp)))) rfl bu33 ze33 .nil) (oM rfl (oT (t_storeC (y' := ((GTab.mk (Str.mk []) ([] : (List Str)) ([] : (List Int)) ([] : (List GTyp))) : GTab)) ty33 rfl rfl (fun _ _ h => h) .here rfl (oA rfl ?_)))))
  refine oA rfl (rnf (w_ret (ret_nxt (ret_post (.cell rfl .here ty33 (.tmp rfl (.tmp rfl .nil))) .nil ?_))))
  obtain rfl := Option.some.inj h
  exact ⟨rfl, rfl⟩
 ·
  refine wkf (wsr (oV (v_loadI ty26 rfl) (cal_inv h fun y8 hy8 h => oT (t_call (table_Make_w hy8) hT (.same rfl .nil) .nil (fun R H' hR => ?_)))))
  obtain ⟨rfl, rfl⟩ := hR
  refine oV (v_extract rfl rfl) (oV (v_extract rfl rfl) (oV (v_extract rfl rfl) (oT (t_storeC (y' := (y8.1 : GTab)) ty33 rfl rfl (fun _ _ h => h) .here rfl (oA rfl ?_)))))
  refine oA rfl (rnf (w_ret (ret_post (.cell rfl .here ty33 (.tmp rfl (.tmp rfl .nil))) .nil ?_)))
  obtain rfl := Option.some.inj h
  exact ⟨rfl, rfl⟩

end Go.Proofs.YtiibmpdjkdjbiaaGreatDoor


namespace Go.Proofs.YtiibmpdjkdjbiaaGreatDoor
open Go.Sy
set_option maxRecDepth 4000
theorem law10_TableRefs_w : ∀ {a_steps : Int} {a_base : Int} {r : Bool}, law10_TableRefs a_steps a_base = some r → Ctr Tryz.prog 8 [isv (a_steps), isv (a_base)] [] (fun R H => R = oneOf [isv (r)] ∧ H = []) := by
 intro a_steps a_base r h
 unfold law10_TableRefs at h
 refine spec_intro Tryz.func8 rfl (by decide +kernel) (by rfl) fun w0 S0 hT => ?_
 refine wsr (oA rfl (rnf (wsr (oM rfl ?_))))
 refine oV (v_toU Tryz.underlying3 Tryz.underlying59 rfl) (asr_inv h fun q1 h => oV (v_rem64 rfl rfl q1) (ck_inv h fun q2 h => oV (v_u64i Tryz.underlying59 Tryz.underlying3 rfl q2) ?_))
 refine oM rfl (oV (v_toU Tryz.underlying3 Tryz.underlying59 rfl) (asr_inv h fun q3 h => oV (v_rem64 rfl rfl q3) (ck_inv h fun q4 h => ?_)))
 refine oV (v_u64i Tryz.underlying59 Tryz.underlying3 rfl q4) (oA rfl (oA rfl (rnf (wsr ?_))))
 refine oT (t_buildSlice (l := ([(Str.mk [73, 78, 84, 69, 71, 69, 82, 32, 40, 48, 46, 46, 55, 44, 32, 46, 46, 46, 41]), (Str.mk [69, 78, 85, 77, 69, 82, 65, 84, 69, 68, 32, 123, 32, 97, 44, 32, 98, 44, 32, 46, 46, 46, 44, 32, 99, 32, 125]), (Str.mk [83, 69, 81, 85, 69, 78, 67, 69, 32, 123, 32, 97, 32, 91, 48, 93, 32, 78, 85, 76, 76, 32, 79, 80, 84, 73, 79, 78, 65, 76, 44, 32, 46, 46, 46, 44, 32, 91, 91, 32, 98, 32, 91, 49, 93, 32, 66, 79, 79, 76, 69, 65, 78, 32, 93, 93, 32, 125]), (Str.mk [67, 72, 79, 73, 67, 69, 32, 123, 32, 97, 32, 78, 85, 76, 76, 44, 32, 98, 32, 66, 79, 79, 76, 69, 65, 78, 32, 125])] : (List Str))) el22 (.cons rfl (fun _ _ h => h) (.cons rfl (fun _ _ h => h) (.cons rfl (fun _ _ h => h) (.cons rfl (fun _ _ h => h) .nil)))) rfl rfl ?_)
 refine oM rfl (cal_inv h fun y6 hy6 h => oV (v_ix (l := ([(Str.mk [73, 78, 84, 69, 71, 69, 82, 32, 40, 48, 46, 46, 55, 44, 32, 46, 46, 46, 41]), (Str.mk [69, 78, 85, 77, 69, 82, 65, 84, 69, 68, 32, 123, 32, 97, 44, 32, 98, 44, 32, 46, 46, 46, 44, 32, 99, 32, 125]), (Str.mk [83, 69, 81, 85, 69, 78, 67, 69, 32, 123, 32, 97, 32, 91, 48, 93, 32, 78, 85, 76, 76, 32, 79, 80, 84, 73, 79, 78, 65, 76, 44, 32, 46, 46, 46, 44, 32, 91, 91, 32, 98, 32, 91, 49, 93, 32, 66, 79, 79, 76, 69, 65, 78, 32, 93, 93, 32, 125]), (Str.mk [67, 72, 79, 73, 67, 69, 32, 123, 32, 97, 32, 78, 85, 76, 76, 44, 32, 98, 32, 66, 79, 79, 76, 69, 65, 78, 32, 125])] : (List Str))) rfl appv_isv rfl sl22 hy6) ?_)
 refine oV (v_loadI ty9 rfl) (oA rfl (rnf (wsr (oA rfl ?_))))
 refine rnf (w_seq (wsr (oA rfl (rnf ?_))))
 refine w_block (w_lp (ι := Str × Int) (γ := Unit) (fun q7 g7 => [(6, isv (q7.1)), (7, isv (q7.2))]) (fun q7 g7 => []) h () (mod_cons (j := 6) rfl (fun _ _ h => h) (mod_cons (j := 7) rfl (fun _ _ h => h) mod_nil)) .nil (fun L8 q7 g7 Q133 h hL8 eL8 rL8 => w_seq (wsr (oM rfl ?_))))
 refine oM rfl (oV (v_lss rfl rfl) (rnf (w_condM h rfl (fun _ h => ?_) (fun _ h => ?_))))
 ·
  refine wkf (w_seq (w_block (w_region (oM rfl ?_))))
  refine asr_inv h fun q71 h => oV (v_cat rfl rfl q71) (oM rfl (oV (v_toU Tryz.underlying3 Tryz.underlying58 rfl) (cal_inv h fun y72 hy72 h => ?_)))
  refine oT (t_call (h_Digits_w fuel hy72) hT (.same rfl .nil) .nil (fun R H' hR => ?_))
  obtain ⟨rfl, rfl⟩ := hR
  refine asr_inv h fun q73 h => oV (v_cat rfl rfl q73) (asr_inv h fun q74 h => oV (v_cat rfl rfl q74) (oM rfl ?_))
  refine oV (v_toU Tryz.underlying3 Tryz.underlying58 rfl) (cal_inv h fun y75 hy75 h => oT (t_call (h_Digits_w fuel hy75) hT (.same rfl .nil) .nil (fun R H' hR => ?_)))
  obtain ⟨rfl, rfl⟩ := hR
  refine asr_inv h fun q76 h => oV (v_cat rfl rfl q76) (asr_inv h fun q77 h => oV (v_cat rfl rfl q77) (oA rfl ?_))
  refine rl_nil (fin_block (fin_nxt (w_region (oM rfl ?_))))
  exact ck_inv h fun q78 h => oV (v_add rfl rfl q78) (oA rfl (rl_nil (hL8 _ () h _ (join_imp 21 rfl rfl (mod_cons (j := 6) rfl (fun _ _ h => h) (mod_cons (j := 7) rfl (fun _ _ h => h) mod_nil)) .nil))))
 ·
  refine w_exit (exi_nxt (eL8 _ _ (exi_block (fin_nxt ?_))))
  refine wsr (oM rfl (oM rfl (asr_inv h fun q79 h => oV (v_cat rfl rfl q79) ?_)))
  refine cal_inv h fun y80 hy80 h => oT (t_call (law10_made_w hy80) hT (.same rfl (.same rfl .nil)) .nil (fun R H' hR => ?_))
  obtain ⟨rfl, rfl⟩ := hR
  refine oM rfl (oV (v_extract rfl rfl) (oV (v_extract rfl rfl) (oV (v_extract rfl rfl) (oT (t_alloc _ ze33 fun b81 => ?_)))))
  refine oT (t_storeC (y' := (y80.1 : GTab)) ty33 rfl rfl (fun _ _ h => h) .here rfl (rl_upd (upd_imm 8 .here rfl) (oA rfl (oA rfl (rnf ?_)))))
  refine wsr (oM rfl (asr_inv h fun q82 h => oV (v_cat rfl rfl q82) (cal_inv h fun y83 hy83 h => ?_)))
  refine oT (t_call (law10_made_w hy83) hT (.same rfl (.same rfl .nil)) .nil (fun R H' hR => ?_))
  obtain ⟨rfl, rfl⟩ := hR
  refine oM rfl (oV (v_extract rfl rfl) (oV (v_extract rfl rfl) (oV (v_extract rfl rfl) (oT (t_alloc _ ze33 fun b84 => ?_)))))
  refine oT (t_storeC (y' := (y83.1 : GTab)) ty33 rfl rfl (fun _ _ h => h) .here rfl (rl_upd (upd_imm 11 .here rfl) (oA rfl (oA rfl (rnf ?_)))))
  refine w_seq (w_regionD (.v 0 (.v 2 (.t 1 (.t 3 (.v 4 (.v 5 .nil)))))) moOrd (by kernel_rfl) ?_)
  refine rd_v rfl (v_loadI ty33 rfl) (rd_v rfl (v_loadI ty33 rfl) (cal_inv h fun y85 hy85 h => rd_t rfl rfl (t_call (table_Find_w hy85) hT (.same rfl (.same rfl .nil)) .nil (fun R H' hR => ?_))))
  obtain ⟨rfl, rfl⟩ := hR
  refine cal_inv h fun y86 hy86 h => rd_t rfl rfl (t_call (table_Find_w hy86) hT (.same rfl (.same rfl .nil)) .nil (fun R H' hR => ?_))
  obtain ⟨rfl, rfl⟩ := hR
  refine rd_v rfl (v_assign rfl) (rd_v rfl (v_assign rfl) (rd_nil (fin_nxt (w_seq ?_))))
  refine wsr (cal_inv h fun y87 hy87 h => oT (t_call (law10_awake_w hy87) hT .nil .nil (fun R H' hR => ?_)))
  obtain ⟨rfl, rfl⟩ := hR
  refine oV (v_not rfl) (oM rfl (rl_j (jb 71) je .nil h 3 rfl (fun q88 g88 h => ?_) (fun J89 h hJ89 => ?_)))
  ·
   refine oM rfl (rl_j (jb 75) je .nil h 3 rfl (fun q91 g91 h => ?_) (fun J92 h hJ92 => ?_))
   ·
    refine oM rfl (rl_j (jb 79) je .nil h 3 rfl (fun q94 g94 h => ?_) (fun J95 h hJ95 => ?_))
    ·
     refine oM rfl (rl_j (jb 83) je .nil h 3 rfl (fun q97 g97 h => ?_) (fun J98 h hJ98 => ?_))
     ·
      refine oM rfl (rl_j (jb 95) je .nil h 11 rfl (fun q100 g100 h => ?_) (fun J101 h hJ101 => ?_))
      ·
       refine rnf (w_condM h rfl (fun _ h => ?_) (fun _ h => ?_))
       ·
        refine wsr (oA rfl (rnf (w_ret (ret_nxt ?_))))
        refine ret_post (.tmp rfl .nil) .nil ?_
        obtain rfl := Option.some.inj h
        exact ⟨rfl, rfl⟩
       ·
        refine wkf (w_seq (w_J (ι := GTyp × GTyp) (γ := Unit) (fun q105 g105 => [(16, immv (q105.1)), (17, immv (q105.2))]) (fun q105 g105 => []) .nil h (fun q105 g105 h => ?_) (fun J106 h hJ106 => ?_)))
        ·
         refine wsr (oV (v_fi rfl GTyp.f0 fd43_0 rfl (z := q105.1.kind)) (oV (v_loadI ty3 rfl) (oV (v_fi rfl GTyp.f0 fd43_0 rfl (z := q105.2.kind)) (oV (v_loadI ty3 rfl) ?_))))
         refine oV (v_eql rfl rfl) (oM rfl (rl_j (jb 115) je .nil h 6 rfl (fun q113 g113 h => ?_) (fun J114 h hJ114 => ?_)))
         ·
          refine oM rfl (rl_j (jb 122) je .nil h 6 rfl (fun q117 g117 h => ?_) (fun J118 h hJ118 => ?_))
          ·
           refine oM rfl (rl_j (jb 129) je .nil h 6 rfl (fun q120 g120 h => ?_) (fun J121 h hJ121 => ?_))
           ·
            refine oM rfl (rl_j (jb 138) je .nil h 8 rfl (fun q124 g124 h => ?_) (fun J125 h hJ125 => ?_))
            ·
             refine oM rfl (rl_j (jb 145) je .nil h 6 rfl (fun q127 g127 h => ?_) (fun J128 h hJ128 => ?_))
             ·
              refine oM rfl (rl_j (jb 152) je .nil h 6 rfl (fun q130 g130 h => ?_) (fun J131 h hJ131 => ?_))
              ·
               refine oA rfl (rnf (w_ret (ret_post (.tmp rfl .nil) .nil ?_)))
               obtain rfl := Option.some.inj h
               exact ⟨rfl, rfl⟩
              ·
               refine rl_condM (j := 146) h rfl (fun g132 h => ?_) (fun g132 h => ?_)
               ·
                refine oK 146 rfl rfl rfl g132 (v_fi rfl GTyp.f6 fd43_6 rfl (z := q105.1.more)) (oK 146 rfl rfl rfl g132 (v_loadI ty4 rfl) (oK 146 rfl rfl rfl g132 (v_fi rfl GTyp.f6 fd43_6 rfl (z := q105.2.more)) (oK 146 rfl rfl rfl g132 (v_loadI ty4 rfl) (oK 146 rfl rfl rfl g132 (v_eqA eq4 rfl rfl) ?_))))
                exact oV (v_pick_t rfl g132 rfl) (hJ131 _ () h _ (ji 6 152 rfl rfl rfl))
               ·
                refine oP 146 rfl rfl g132 (oP 146 rfl rfl g132 (oP 146 rfl rfl g132 (oP 146 rfl rfl g132 (oP 146 rfl rfl g132 ?_))))
                exact oV (v_pick_f rfl g132 rfl) (hJ131 _ () h _ (ji 6 152 rfl rfl rfl))
             ·
              refine rl_condM (j := 139) h rfl (fun g129 h => ?_) (fun g129 h => ?_)
              ·
               refine oK 139 rfl rfl rfl g129 (v_fi rfl GTyp.f5 fd43_5 rfl (z := q105.1.root)) (oK 139 rfl rfl rfl g129 (v_loadI ty3 rfl) (oK 139 rfl rfl rfl g129 (v_fi rfl GTyp.f5 fd43_5 rfl (z := q105.2.root)) (oK 139 rfl rfl rfl g129 (v_loadI ty3 rfl) (oK 139 rfl rfl rfl g129 (v_eql rfl rfl) ?_))))
               exact oV (v_pick_t rfl g129 rfl) (hJ128 _ () h _ (ji 6 145 rfl rfl rfl))
              ·
               refine oP 139 rfl rfl g129 (oP 139 rfl rfl g129 (oP 139 rfl rfl g129 (oP 139 rfl rfl g129 (oP 139 rfl rfl g129 ?_))))
               exact oV (v_pick_f rfl g129 rfl) (hJ128 _ () h _ (ji 6 145 rfl rfl rfl))
            ·
             refine rl_condM (j := 130) h rfl (fun g126 h => ?_) (fun g126 h => ?_)
             ·
              refine oK 130 rfl rfl rfl g126 (v_fi rfl GTyp.f4 fd43_4 rfl (z := q105.1.fields)) (oK 130 rfl rfl rfl g126 (v_loadI ty41 rfl) (oK 130 rfl rfl rfl g126 (v_ln (l := q105.1.fields) rfl (fun _ _ h => h) sl41) (oK 130 rfl rfl rfl g126 (v_fi rfl GTyp.f4 fd43_4 rfl (z := q105.2.fields)) (oK 130 rfl rfl rfl g126 (v_loadI ty41 rfl) ?_))))
              exact oK 130 rfl rfl rfl g126 (v_ln (l := q105.2.fields) rfl (fun _ _ h => h) sl41) (oK 130 rfl rfl rfl g126 (v_eql rfl rfl) (oV (v_pick_t rfl g126 rfl) (hJ125 _ () h _ (ji 8 138 rfl rfl rfl))))
             ·
              refine oP 130 rfl rfl g126 (oP 130 rfl rfl g126 (oP 130 rfl rfl g126 (oP 130 rfl rfl g126 (oP 130 rfl rfl g126 ?_))))
              exact oP 130 rfl rfl g126 (oP 130 rfl rfl g126 (oV (v_pick_f rfl g126 rfl) (hJ125 _ () h _ (ji 8 138 rfl rfl rfl))))
           ·
            refine rl_condM (j := 123) h rfl (fun g122 h => ?_) (fun g122 h => ?_)
            ·
             refine oK 123 rfl rfl rfl g122 (v_fi rfl GTyp.f3 fd43_3 rfl (z := q105.1.items)) (oK 123 rfl rfl rfl g122 (v_loadI ty40 rfl) (oK 123 rfl rfl rfl g122 (v_fi rfl GTyp.f3 fd43_3 rfl (z := q105.2.items)) (oK 123 rfl rfl rfl g122 (v_loadI ty40 rfl) (cal_inv h fun y123 hy123 h => ?_))))
             refine op_take rfl rfl (dj := 123) rfl g122 (t_call (h_Plain_api_Item_w hy123) hT (.same rfl (.same rfl .nil)) .nil (fun R H' hR => ?_))
             obtain ⟨rfl, rfl⟩ := hR
             exact oV (v_pick_t rfl g122 rfl) (hJ121 _ () h _ (ji 6 129 rfl rfl rfl))
            ·
             refine oP 123 rfl rfl g122 (oP 123 rfl rfl g122 (oP 123 rfl rfl g122 (oP 123 rfl rfl g122 (oP 123 rfl rfl g122 ?_))))
             exact oV (v_pick_f rfl g122 rfl) (hJ121 _ () h _ (ji 6 129 rfl rfl rfl))
          ·
           refine rl_condM (j := 116) h rfl (fun g119 h => ?_) (fun g119 h => ?_)
           ·
            refine oK 116 rfl rfl rfl g119 (v_fi rfl GTyp.f2 fd43_2 rfl (z := q105.1.con)) (oK 116 rfl rfl rfl g119 (v_loadI ty39 rfl) (oK 116 rfl rfl rfl g119 (v_fi rfl GTyp.f2 fd43_2 rfl (z := q105.2.con)) (oK 116 rfl rfl rfl g119 (v_loadI ty39 rfl) (oK 116 rfl rfl rfl g119 (v_eqA eq39 rfl rfl) ?_))))
            exact oV (v_pick_t rfl g119 rfl) (hJ118 _ () h _ (ji 6 122 rfl rfl rfl))
           ·
            refine oP 116 rfl rfl g119 (oP 116 rfl rfl g119 (oP 116 rfl rfl g119 (oP 116 rfl rfl g119 (oP 116 rfl rfl g119 ?_))))
            exact oV (v_pick_f rfl g119 rfl) (hJ118 _ () h _ (ji 6 122 rfl rfl rfl))
         ·
          refine rl_condM (j := 109) h rfl (fun g115 h => ?_) (fun g115 h => ?_)
          ·
           refine oK 109 rfl rfl rfl g115 (v_fi rfl GTyp.f1 fd43_1 rfl (z := q105.1.tags)) (oK 109 rfl rfl rfl g115 (v_loadI ty37 rfl) (oK 109 rfl rfl rfl g115 (v_fi rfl GTyp.f1 fd43_1 rfl (z := q105.2.tags)) (oK 109 rfl rfl rfl g115 (v_loadI ty37 rfl) (cal_inv h fun y116 hy116 h => ?_))))
           refine op_take rfl rfl (dj := 109) rfl g115 (t_call (h_Plain_api_Tag_w hy116) hT (.same rfl (.same rfl .nil)) .nil (fun R H' hR => ?_))
           obtain ⟨rfl, rfl⟩ := hR
           exact oV (v_pick_t rfl g115 rfl) (hJ114 _ () h _ (ji 6 115 rfl rfl rfl))
          ·
           refine oP 109 rfl rfl g115 (oP 109 rfl rfl g115 (oP 109 rfl rfl g115 (oP 109 rfl rfl g115 (oP 109 rfl rfl g115 ?_))))
           exact oV (v_pick_f rfl g115 rfl) (hJ114 _ () h _ (ji 6 115 rfl rfl rfl))
        ·
         refine w_regionD (.v 0 (.v 1 (.v 2 (.v 3 (.v 4 (.v 5 (.v 6 (.v 7 (.alt 8 (.t 9 (.t 10 (.t 11 .nil))) (.t 9 (.t 8 (.t 10 (.t 11 .nil))))))))))))) moOrd (by kernel_rfl) ?_
         refine rd_v rfl (v_fi rfl GTab.f3 fd33_3 rfl (z := y80.1.types)) (rd_v rfl (v_loadI ty31 rfl) (cal_inv h fun y107 hy107 h => rd_v rfl (v_ix (l := y80.1.types) rfl (fun _ _ h => h) rfl sl31 hy107) (rd_v rfl (v_loadI ty43 rfl) ?_)))
         refine rd_v rfl (v_fi rfl GTab.f3 fd33_3 rfl (z := y83.1.types)) (rd_v rfl (v_loadI ty31 rfl) (cal_inv h fun y108 hy108 h => rd_v rfl (v_ix (l := y83.1.types) rfl (fun _ _ h => h) rfl sl31 hy108) (rd_v rfl (v_loadI ty43 rfl) ?_)))
         refine rd_two ?_ ?_
         ·
          refine rd_t rfl rfl (t_alloc _ ze43 fun b109 => rd_t rfl rfl (t_alloc _ ze43 fun b110 => rd_t rfl rfl (t_storeC (y' := (y107 : GTyp)) ty43 rfl rfl (fun _ _ h => h) (.there .here) rfl (rd_upd (upd_imm 16 .here rfl) (rd_t rfl rfl (t_storeC (y' := (y108 : GTyp)) ty43 rfl rfl (fun _ _ h => h) .here rfl ?_))))))
          exact rd_upd (upd_imm 17 .here rfl) (rd_nil (hJ106 _ () h _ (join_imp 12 rfl rfl (mod_cons (j := 16) rfl (fun _ _ h => h) (mod_cons (j := 17) rfl (fun _ _ h => h) mod_nil)) .nil)))
         ·
          refine rd_t rfl rfl (t_alloc _ ze43 fun b111 => rd_t rfl rfl (t_alloc _ ze43 fun b112 => rd_t rfl rfl (t_storeC (y' := (y107 : GTyp)) ty43 rfl rfl (fun _ _ h => h) .here rfl (rd_upd (upd_imm 16 .here rfl) (rd_t rfl rfl (t_storeC (y' := (y108 : GTyp)) ty43 rfl rfl (fun _ _ h => h) .here rfl ?_))))))
          exact rd_upd (upd_imm 17 .here rfl) (rd_nil (hJ106 _ () h _ (join_imp 12 rfl rfl (mod_cons (j := 16) rfl (fun _ _ h => h) (mod_cons (j := 17) rfl (fun _ _ h => h) mod_nil)) .nil)))
      ·
       refine rl_condM (j := 84) h rfl (fun g102 h => ?_) (fun g102 h => ?_)
       ·
        refine oP 84 rfl rfl g102 (oP 84 rfl rfl g102 (oP 84 rfl rfl g102 (oP 84 rfl rfl g102 (oP 84 rfl rfl g102 ?_))))
        refine oP 84 rfl rfl g102 (oP 84 rfl rfl g102 (oP 84 rfl rfl g102 (oP 84 rfl rfl g102 (oP 84 rfl rfl g102 ?_))))
        exact oV (v_pick_t rfl g102 rfl) (hJ101 _ () h _ (ji 11 95 rfl rfl rfl))
       ·
        refine oK 84 rfl rfl rfl g102 (v_fi rfl GTab.f3 fd33_3 rfl (z := y80.1.types)) (oK 84 rfl rfl rfl g102 (v_loadI ty31 rfl) (oK 84 rfl rfl rfl g102 (v_ln (l := y80.1.types) rfl (fun _ _ h => h) sl31) (oK 84 rfl rfl rfl g102 (v_move rfl) (ck_inv h fun q103 h => ?_))))
        refine oK 84 rfl rfl rfl g102 (v_add rfl rfl q103) (oK 84 rfl rfl rfl g102 (v_fi rfl GTab.f3 fd33_3 rfl (z := y83.1.types)) (oK 84 rfl rfl rfl g102 (v_loadI ty31 rfl) (oK 84 rfl rfl rfl g102 (v_ln (l := y83.1.types) rfl (fun _ _ h => h) sl31) (ck_inv h fun q104 h => ?_))))
        exact oK 84 rfl rfl rfl g102 (v_mul rfl rfl q104) (oK 84 rfl rfl rfl g102 (v_neq rfl rfl) (oV (v_pick_f rfl g102 rfl) (hJ101 _ () h _ (ji 11 95 rfl rfl rfl))))
     ·
      refine rl_condM (j := 80) h rfl (fun g99 h => ?_) (fun g99 h => ?_)
      ·
       exact oP 80 rfl rfl g99 (oP 80 rfl rfl g99 (oV (v_pick_t rfl g99 rfl) (hJ98 _ () h _ (ji 3 83 rfl rfl rfl))))
      ·
       exact oK 80 rfl rfl rfl g99 (v_move rfl) (oK 80 rfl rfl rfl g99 (v_neq rfl rfl) (oV (v_pick_f rfl g99 rfl) (hJ98 _ () h _ (ji 3 83 rfl rfl rfl))))
    ·
     refine rl_condM (j := 76) h rfl (fun g96 h => ?_) (fun g96 h => ?_)
     ·
      exact oP 76 rfl rfl g96 (oP 76 rfl rfl g96 (oV (v_pick_t rfl g96 rfl) (hJ95 _ () h _ (ji 3 79 rfl rfl rfl))))
     ·
      exact oK 76 rfl rfl rfl g96 (v_move rfl) (oK 76 rfl rfl rfl g96 (v_neq rfl rfl) (oV (v_pick_f rfl g96 rfl) (hJ95 _ () h _ (ji 3 79 rfl rfl rfl))))
   ·
    refine rl_condM (j := 72) h rfl (fun g93 h => ?_) (fun g93 h => ?_)
    ·
     exact oP 72 rfl rfl g93 (oP 72 rfl rfl g93 (oV (v_pick_t rfl g93 rfl) (hJ92 _ () h _ (ji 3 75 rfl rfl rfl))))
    ·
     exact oK 72 rfl rfl rfl g93 (v_move rfl) (oK 72 rfl rfl rfl g93 (v_neq rfl rfl) (oV (v_pick_f rfl g93 rfl) (hJ92 _ () h _ (ji 3 75 rfl rfl rfl))))
  ·
   refine rl_condM (j := 68) h rfl (fun g90 h => ?_) (fun g90 h => ?_)
   ·
    exact oP 68 rfl rfl g90 (oP 68 rfl rfl g90 (oV (v_pick_t rfl g90 rfl) (hJ89 _ () h _ (ji 3 71 rfl rfl rfl))))
   ·
    exact oK 68 rfl rfl rfl g90 (v_move rfl) (oK 68 rfl rfl rfl g90 (v_neq rfl rfl) (oV (v_pick_f rfl g90 rfl) (hJ89 _ () h _ (ji 3 71 rfl rfl rfl))))

end Go.Proofs.YtiibmpdjkdjbiaaGreatDoor

