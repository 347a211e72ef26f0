/- Walks, printed by mill.py. -/
import Derived.Test.YtiibmpdjkdjbiaaGreatDoorTmA
import Derived.Test.YtiibmpdjkdjbiaaGreatDoorTmB
import Derived.Test.YtiibmpdjkdjbiaaGreatDoorTmC
import Derived.Test.YtiibmpdjkdjbiaaGreatDoorTmD
set_option linter.unusedVariables false
set_option linter.unusedSimpArgs false

namespace Go.Proofs.YtiibmpdjkdjbiaaGreatDoor
open Go.Sy
set_option maxRecDepth 4000
theorem table_Find_w : ∀ {a_t : GTab} {a_name : Str} {r : Int}, table_Find a_t a_name = some r → Ctr Tryz.prog 23 [isv (a_t), isv (a_name)] [] (fun R H => R = oneOf [isv (r)] ∧ H = []) := by
 intro a_t a_name r h
 unfold table_Find at h
 refine spec_intro Tryz.func23 rfl (by decide +kernel) (by rfl) fun w0 S0 hT => ?_
 refine wsr (oT (t_boxIC (y := a_t) rfl (fun _ _ h => h) (oA rfl (rnf (wsr ?_)))))
 refine oV (v_fi rfl GTab.f1 fd33_1 rfl (z := a_t.names)) (oV (v_loadI ty22 rfl) (oM rfl (cal_inv h fun y1 hy1 h => oT (t_call (slices_Index_Lstring_string_w hy1) hT (.same rfl (.same rfl .nil)) .nil (fun R H' hR => ?_)))))
 obtain ⟨rfl, rfl⟩ := hR
 refine oA rfl (rnf (w_seq (wsr (oM rfl ?_))))
 refine oV (v_lss rfl rfl) (oM rfl (rl_j (jb 18) je .nil h 6 rfl (fun q2 g2 h => ?_) (fun J3 h hJ3 => ?_)))
 ·
  refine rnf (w_condM h rfl (fun _ h => ?_) (fun _ h => ?_))
  ·
   refine wsr (oA rfl (rnf (w_ret (ret_nxt ?_))))
   refine ret_post (.tmp rfl .nil) .nil ?_
   obtain rfl := Option.some.inj h
   exact ⟨rfl, rfl⟩
  ·
   refine wkf (wsr (oV (v_fi rfl GTab.f2 fd33_2 rfl (z := a_t.roots)) (oV (v_loadI ty23 rfl) (oM rfl ?_))))
   refine cal_inv h fun y5 hy5 h => oV (v_ix (l := a_t.roots) rfl (fun _ _ h => h) rfl sl23 hy5) (oV (v_loadI ty3 rfl) (oA rfl (rnf ?_)))
   refine w_ret (ret_post (.tmp rfl .nil) .nil ?_)
   obtain rfl := Option.some.inj h
   exact ⟨rfl, rfl⟩
 ·
  refine rl_condM (j := 12) h rfl (fun g4 h => ?_) (fun g4 h => ?_)
  ·
   refine oP 12 rfl rfl g4 (oP 12 rfl rfl g4 (oP 12 rfl rfl g4 (oP 12 rfl rfl g4 (oP 12 rfl rfl g4 ?_))))
   exact oV (v_pick_t rfl g4 rfl) (hJ3 _ () h _ (ji 6 18 rfl rfl rfl))
  ·
   refine oK 12 rfl rfl rfl g4 (v_move rfl) (oK 12 rfl rfl rfl g4 (v_fi rfl GTab.f2 fd33_2 rfl (z := a_t.roots)) (oK 12 rfl rfl rfl g4 (v_loadI ty23 rfl) (oK 12 rfl rfl rfl g4 (v_ln (l := a_t.roots) rfl (fun _ _ h => h) sl23) (oK 12 rfl rfl rfl g4 (v_geq rfl rfl) ?_))))
   exact oV (v_pick_f rfl g4 rfl) (hJ3 _ () h _ (ji 6 18 rfl rfl rfl))


theorem law10_awake_w : ∀  {r : Bool}, law10_awake  = some r → Ctr Tryz.prog 12 [] [] (fun R H => R = oneOf [isv (r)] ∧ H = []) := by
 intro  r h
 unfold law10_awake at h
 refine spec_intro Tryz.func12 rfl (by decide +kernel) (by rfl) fun w0 S0 hT => ?_
 refine wsr (oA rfl (rnf (wsr (cal_inv h fun y1 hy1 h => ?_))))
 refine oT (t_call (r05_Parse_w hy1) hT (.same rfl .nil) .nil (fun R H' hR => ?_))
 obtain ⟨rfl, rfl⟩ := hR
 refine oM rfl (oV (v_extract rfl rfl) (oV (v_extract rfl rfl) (oV (v_extract rfl rfl) (oT (t_alloc _ ze26 fun b2 => ?_)))))
 refine oT (t_storeC (y' := (y1.1 : GMod)) ty26 rfl rfl (fun _ _ h => h) .here rfl (rl_upd (upd_imm 1 .here rfl) (oA rfl (oA rfl (rnf ?_)))))
 refine wsr (oV (v_loadI ty26 rfl) (cal_inv h fun y3 hy3 h => oT (t_call (table_Make_w hy3) hT (.same rfl .nil) .nil (fun R H' hR => ?_))))
 obtain ⟨rfl, rfl⟩ := hR
 refine oM rfl (oV (v_extract rfl rfl) (oV (v_extract rfl rfl) (oV (v_extract rfl rfl) (oT (t_alloc _ ze33 fun b4 => ?_)))))
 refine oT (t_storeC (y' := (y3.1 : GTab)) ty33 rfl rfl (fun _ _ h => h) .here rfl (rl_upd (upd_imm 4 .here rfl) (oA rfl (oA rfl (rnf ?_)))))
 refine wsr (oM rfl (oV (v_eql rfl rfl) (oM rfl (rl_j (jb 25) je .nil h 5 rfl (fun q5 g5 h => ?_) (fun J6 h hJ6 => ?_)))))
 ·
  refine oM rfl (rl_j (jb 30) je .nil h 4 rfl (fun q8 g8 h => ?_) (fun J9 h hJ9 => ?_))
  ·
   refine oM rfl (rl_j (jb 39) je .nil h 8 rfl (fun q12 g12 h => ?_) (fun J13 h hJ13 => ?_))
   ·
    refine oA rfl (rnf (w_ret (ret_post (.tmp rfl .nil) .nil ?_)))
    obtain rfl := Option.some.inj h
    exact ⟨rfl, rfl⟩
   ·
    refine rl_condM (j := 31) h rfl (fun g14 h => ?_) (fun g14 h => ?_)
    ·
     refine oK 31 rfl rfl rfl g14 (v_fi rfl GTab.f3 fd33_3 rfl (z := y3.1.types)) (oK 31 rfl rfl rfl g14 (v_loadI ty31 rfl) (cal_inv h fun y15 hy15 h => oK 31 rfl rfl rfl g14 (v_ix (l := y3.1.types) rfl (fun _ _ h => h) rfl sl31 hy15) (oK 31 rfl rfl rfl g14 (v_fi rfl GTyp.f1 fd43_1 rfl (z := y15.tags)) ?_)))
     exact oK 31 rfl rfl rfl g14 (v_loadI ty37 rfl) (oK 31 rfl rfl rfl g14 (v_ln (l := y15.tags) rfl (fun _ _ h => h) sl37) (oK 31 rfl rfl rfl g14 (v_eql rfl rfl) (oV (v_pick_t rfl g14 rfl) (hJ13 _ () h _ (ji 8 39 rfl rfl rfl)))))
    ·
     refine oP 31 rfl rfl g14 (oP 31 rfl rfl g14 (oP 31 rfl rfl g14 (oP 31 rfl rfl g14 (oP 31 rfl rfl g14 ?_))))
     exact oP 31 rfl rfl g14 (oP 31 rfl rfl g14 (oV (v_pick_f rfl g14 rfl) (hJ13 _ () h _ (ji 8 39 rfl rfl rfl))))
  ·
   refine rl_condM (j := 26) h rfl (fun g10 h => ?_) (fun g10 h => ?_)
   ·
    refine oK 26 rfl rfl rfl g10 (v_loadI ty33 rfl) (cal_inv h fun y11 hy11 h => op_take rfl rfl (dj := 26) rfl g10 (t_call (table_Find_w hy11) hT (.same rfl (.same rfl .nil)) .nil (fun R H' hR => ?_)))
    obtain ⟨rfl, rfl⟩ := hR
    exact oK 26 rfl rfl rfl g10 (v_eql rfl rfl) (oV (v_pick_t rfl g10 rfl) (hJ9 _ () h _ (ji 4 30 rfl rfl rfl)))
   ·
    exact oP 26 rfl rfl g10 (oP 26 rfl rfl g10 (oP 26 rfl rfl g10 (oV (v_pick_f rfl g10 rfl) (hJ9 _ () h _ (ji 4 30 rfl rfl rfl)))))
 ·
  refine rl_condM (j := 20) h rfl (fun g7 h => ?_) (fun g7 h => ?_)
  ·
   refine oK 20 rfl rfl rfl g7 (v_fi rfl GTab.f3 fd33_3 rfl (z := y3.1.types)) (oK 20 rfl rfl rfl g7 (v_loadI ty31 rfl) (oK 20 rfl rfl rfl g7 (v_ln (l := y3.1.types) rfl (fun _ _ h => h) sl31) (oK 20 rfl rfl rfl g7 (v_eql rfl rfl) (oV (v_pick_t rfl g7 rfl) ?_))))
   exact hJ6 _ () h _ (ji 5 25 rfl rfl rfl)
  ·
   refine oP 20 rfl rfl g7 (oP 20 rfl rfl g7 (oP 20 rfl rfl g7 (oP 20 rfl rfl g7 (oV (v_pick_f rfl g7 rfl) ?_))))
   exact hJ6 _ () h _ (ji 5 25 rfl rfl rfl)

end Go.Proofs.YtiibmpdjkdjbiaaGreatDoor


namespace Go.Proofs.YtiibmpdjkdjbiaaGreatDoor
open Go.Sy
set_option maxRecDepth 4000
theorem h_Plain_api_Tag_c1_w : ∀ {a_x : Tag} {a_y : Tag} {r : Bool}, h_Plain_api_Tag_c1 a_x a_y = some r → Ctr Tryz.prog 44 [isv (a_x), isv (a_y)] [] (fun R H => R = oneOf [isv (r)] ∧ H = []) := by
 intro a_x a_y r h
 unfold h_Plain_api_Tag_c1 at h
 refine spec_intro Tryz.func44 rfl (by decide +kernel) (by rfl) fun w0 S0 hT => ?_
 refine wsr (oT (t_boxIC (y := a_x) rfl (fun _ _ h => h) (oT (t_boxIC (y := a_y) rfl (fun _ _ h => h) (oA rfl (rnf ?_))))))
 refine wsr (oV (v_loadI ty66 rfl) (oV (v_loadI ty66 rfl) (oV (v_eqA eq66 rfl rfl) (oA rfl ?_))))
 refine rnf (w_ret (ret_post (.tmp rfl .nil) .nil ?_))
 obtain rfl := Option.some.inj h
 exact ⟨rfl, rfl⟩


theorem h_Same_api_Tag_w : ∀ {a_a : (List Tag)} {a_b : (List Tag)} {r : Bool}, h_Same_api_Tag a_a a_b = some r → Ctr Tryz.prog 43 [isv (a_a), isv (a_b), clov 44 []] [] (fun R H => R = oneOf [isv (r)] ∧ H = []) := by
 intro a_a a_b r h
 unfold h_Same_api_Tag at h
 refine spec_intro Tryz.func43 rfl (by decide +kernel) (by rfl) fun w0 S0 hT => ?_
 refine wsr (oA rfl (rnf (w_seq (wsr ?_))))
 refine oM rfl (oV (v_ln (l := a_a) rfl (fun _ _ h => h) sl37) (oM rfl (oV (v_ln (l := a_b) rfl (fun _ _ h => h) sl37) (oV (v_neq rfl rfl) ?_))))
 refine rnf (w_condM h rfl (fun _ h => ?_) (fun _ h => ?_))
 ·
  refine wsr (oA rfl (rnf (w_ret (ret_nxt ?_))))
  refine ret_post (.tmp rfl .nil) .nil ?_
  obtain rfl := Option.some.inj h
  exact ⟨rfl, rfl⟩
 ·
  refine wkf (w_seq (wsr (oA rfl (rnf ?_))))
  refine w_block (w_lp (ι := Int) (γ := Unit) (fun q1 g1 => [(7, isv (q1))]) (fun q1 g1 => []) h () (mod_cons (j := 7) rfl (fun _ _ h => h) mod_nil) .nil (fun L2 q1 g1 Q11 h hL2 eL2 rL2 => w_seq (wsr (oM rfl ?_))))
  refine oM rfl (oV (v_ln (l := a_a) rfl (fun _ _ h => h) sl37) (oV (v_lss rfl rfl) (rnf (w_condM h rfl (fun _ h => ?_) (fun _ h => ?_)))))
  ·
   refine wkf (w_seq (w_block (w_seq (w_regionD (.v 0 (.v 1 (.v 2 (.v 3 (.v 4 (.v 5 (.v 6 (.v 7 (.v 8 (.t 9 (.v 10 .nil))))))))))) moOrd (by kernel_rfl) ?_))))
   refine rvm rfl rfl (rvm rfl rfl (rvm rfl rfl (cal_inv h fun y7 hy7 h => rd_v rfl (v_ix (l := a_a) rfl (fun _ _ h => h) rfl sl37 hy7) ?_)))
   refine rd_v rfl (v_loadI ty66 rfl) (rvm rfl rfl (rvm rfl rfl (cal_inv h fun y8 hy8 h => rd_v rfl (v_ix (l := a_b) rfl (fun _ _ h => h) rfl sl37 hy8) ?_)))
   refine rd_v rfl (v_loadI ty66 rfl) (cal_inv h fun y9 hy9 h => rd_t rfl rfl (t_callC rfl (.same rfl (.same rfl .nil)) (h_Plain_api_Tag_c1_w hy9) hT .nil (fun R H' hR => ?_)))
   obtain ⟨rfl, rfl⟩ := hR
   refine rd_v rfl (v_not rfl) (rd_nil (fin_nxt (w_condM h rfl (fun _ h => ?_) (fun _ h => ?_))))
   ·
    refine wsr (oA rfl (rnf (w_ret (ret_block ?_))))
    refine ret_nxt (rL2 _ (ret_block (ret_nxt (ret_post (.tmp rfl .nil) .nil ?_))))
    obtain rfl := Option.some.inj h
    exact ⟨rfl, rfl⟩
   ·
    refine w_skip (fin_block (fin_nxt (w_region (oM rfl ?_))))
    exact ck_inv h fun q10 h => oV (v_add rfl rfl q10) (oA rfl (rl_nil (hL2 _ () h _ (ji 19 7 rfl rfl rfl))))
  ·
   refine w_exit (exi_nxt (eL2 _ _ (exi_block (fin_nxt ?_))))
   refine wsr (oA rfl (rnf (w_ret (ret_post (.tmp rfl .nil) .nil ?_))))
   obtain rfl := Option.some.inj h
   exact ⟨rfl, rfl⟩


theorem h_Plain_api_Tag_w : ∀ {a_a : (List Tag)} {a_b : (List Tag)} {r : Bool}, h_Plain_api_Tag a_a a_b = some r → Ctr Tryz.prog 21 [isv (a_a), isv (a_b)] [] (fun R H => R = oneOf [isv (r)] ∧ H = []) := by
 intro a_a a_b r h
 unfold h_Plain_api_Tag at h
 refine spec_intro Tryz.func21 rfl (by decide +kernel) (by rfl) fun w0 S0 hT => ?_
 refine wsr (oA rfl (rnf (wsr (oM rfl ?_))))
 refine oM rfl (cal_inv h fun y1 hy1 h => oT (t_call (h_Same_api_Tag_w hy1) hT (.same rfl (.same rfl (.same rfl .nil))) .nil (fun R H' hR => ?_)))
 obtain ⟨rfl, rfl⟩ := hR
 refine oA rfl (rnf (w_ret (ret_post (.tmp rfl .nil) .nil ?_)))
 obtain rfl := Option.some.inj h
 exact ⟨rfl, rfl⟩


end Go.Proofs.YtiibmpdjkdjbiaaGreatDoor


namespace Go.Proofs.YtiibmpdjkdjbiaaGreatDoor
open Go.Sy
set_option maxRecDepth 4000
theorem law10_made_w : ∀ {a_tagging : Str} {a_t : Str} {r : GTab × Int × Int}, law10_made a_tagging a_t = some r → Ctr Tryz.prog 22 [isv (a_tagging), isv (a_t)] [] (fun R H => R = oneOf [isv (r.1), isv (r.2.1), isv (r.2.2)] ∧ H = []) := by
 intro a_tagging a_t r h
 unfold law10_made at h
 refine spec_intro Tryz.func22 rfl (by decide +kernel) (by rfl) fun w0 S0 hT => ?_
 refine wsr (oT (t_alloc _ ze33 fun b1 => oA rfl (oA rfl (rnf ?_))))
 refine wsr (oM rfl (asr_inv h fun q2 h => oV (v_cat rfl rfl q2) (asr_inv h fun q3 h => ?_)))
 refine oV (v_cat rfl rfl q3) (oM rfl (asr_inv h fun q4 h => oV (v_cat rfl rfl q4) (asr_inv h fun q5 h => ?_)))
 refine oV (v_cat rfl rfl q5) (cal_inv h fun y6 hy6 h => oT (t_call (r05_Parse_w hy6) hT (.same rfl .nil) .nil (fun R H' hR => ?_)))
 obtain ⟨rfl, rfl⟩ := hR
 refine oM rfl (oV (v_extract rfl rfl) (oV (v_extract rfl rfl) (oV (v_extract rfl rfl) (oT (t_alloc _ ze26 fun b7 => ?_)))))
 refine oT (t_storeC (y' := (y6.1 : GMod)) ty26 rfl rfl (fun _ _ h => h) .here rfl (rl_upd (upd_imm 7 .here rfl) (oA rfl (oA rfl (rnf ?_)))))
 refine w_seq (wsr (oM rfl (oV (v_neq rfl rfl) (rnf ?_))))
 refine w_condM h rfl (fun _ h => ?_) (fun _ h => ?_)
 ·
  refine wsr (oV (v_build (z := (GTab.mk (Str.mk []) ([] : (List Str)) ([] : (List Int)) ([] : (List GTyp)))) rfl bu33 ze33 .nil) (oM rfl (oT (t_storeC (y' := ((GTab.mk (Str.mk []) ([] : (List Str)) ([] : (List Int)) ([] : (List GTyp))) : GTab)) ty33 rfl rfl (fun _ _ h => h) .here rfl (oA rfl ?_)))))
  refine oA rfl (rnf (w_ret (ret_nxt (ret_post (.cell rfl .here ty33 (.tmp rfl (.tmp rfl .nil))) .nil ?_))))
  obtain rfl := Option.some.inj h
  exact ⟨rfl, rfl⟩
 ·
  refine wkf (wsr (oV (v_loadI ty26 rfl) (cal_inv h fun y8 hy8 h => oT (t_call (table_Make_w hy8) hT (.same rfl .nil) .nil (fun R H' hR => ?_)))))
  obtain ⟨rfl, rfl⟩ := hR
  refine oV (v_extract rfl rfl) (oV (v_extract rfl rfl) (oV (v_extract rfl rfl) (oT (t_storeC (y' := (y8.1 : GTab)) ty33 rfl rfl (fun _ _ h => h) .here rfl (oA rfl ?_)))))
  refine oA rfl (rnf (w_ret (ret_post (.cell rfl .here ty33 (.tmp rfl (.tmp rfl .nil))) .nil ?_)))
  obtain rfl := Option.some.inj h
  exact ⟨rfl, rfl⟩

end Go.Proofs.YtiibmpdjkdjbiaaGreatDoor


namespace Go.Proofs.YtiibmpdjkdjbiaaGreatDoor
open Go.Sy
set_option maxRecDepth 4000
theorem law10_TableMarks_w : ∀ {a_module : Int} {a_mode : Int} {a_choice : Bool} {a_by_ : Bool} {r : Bool}, law10_TableMarks a_module a_mode a_choice a_by_ = some r → Ctr Tryz.prog 6 [isv (a_module), isv (a_mode), isv (a_choice), isv (a_by_)] [] (fun R H => R = oneOf [isv (r)] ∧ H = []) := by
 intro a_module a_mode a_choice a_by_ r h
 unfold law10_TableMarks at h
 refine spec_intro Tryz.func6 rfl (by decide +kernel) (by rfl) fun w0 S0 hT => ?_
 refine wsr (oA rfl (rnf (wsr (oM rfl ?_))))
 refine oV (v_toU Tryz.underlying3 Tryz.underlying59 rfl) (asr_inv h fun q1 h => oV (v_rem64 rfl rfl q1) (ck_inv h fun q2 h => oV (v_u64i Tryz.underlying59 Tryz.underlying3 rfl q2) ?_))
 refine oM rfl (oV (v_toU Tryz.underlying3 Tryz.underlying59 rfl) (asr_inv h fun q3 h => oV (v_rem64 rfl rfl q3) (ck_inv h fun q4 h => ?_)))
 refine oV (v_u64i Tryz.underlying59 Tryz.underlying3 rfl q4) (oA rfl (oA rfl (rnf (wsr ?_))))
 refine oT (t_buildSlice (l := ([(Str.mk [69, 88, 80, 76, 73, 67, 73, 84, 32, 84, 65, 71, 83, 32]), (Str.mk [73, 77, 80, 76, 73, 67, 73, 84, 32, 84, 65, 71, 83, 32]), (Str.mk [65, 85, 84, 79, 77, 65, 84, 73, 67, 32, 84, 65, 71, 83, 32])] : (List Str))) el22 (.cons rfl (fun _ _ h => h) (.cons rfl (fun _ _ h => h) (.cons rfl (fun _ _ h => h) .nil))) rfl rfl (oM rfl (cal_inv h fun y6 hy6 h => oV (v_ix (l := ([(Str.mk [69, 88, 80, 76, 73, 67, 73, 84, 32, 84, 65, 71, 83, 32]), (Str.mk [73, 77, 80, 76, 73, 67, 73, 84, 32, 84, 65, 71, 83, 32]), (Str.mk [65, 85, 84, 79, 77, 65, 84, 73, 67, 32, 84, 65, 71, 83, 32])] : (List Str))) rfl appv_isv rfl sl22 hy6) (oV (v_loadI ty9 rfl) ?_))))
 refine oA rfl (rnf (wsr (oA rfl (rnf ?_))))
 refine w_seq (wsr (oM rfl (rnf (w_J (ι := Str) (γ := Unit) (fun q7 g7 => [(10, isv (q7))]) (fun q7 g7 => []) .nil h (fun q7 g7 h => ?_) (fun J8 h hJ8 => ?_)))))
 ·
  refine wsr (oT (t_buildSlice (l := ([(Str.mk []), (Str.mk [69, 88, 80, 76, 73, 67, 73, 84, 32]), (Str.mk [73, 77, 80, 76, 73, 67, 73, 84, 32])] : (List Str))) el22 (.cons rfl (fun _ _ h => h) (.cons rfl (fun _ _ h => h) (.cons rfl (fun _ _ h => h) .nil))) rfl rfl (oM rfl (cal_inv h fun y10 hy10 h => oV (v_ix (l := ([(Str.mk []), (Str.mk [69, 88, 80, 76, 73, 67, 73, 84, 32]), (Str.mk [73, 77, 80, 76, 73, 67, 73, 84, 32])] : (List Str))) rfl appv_isv rfl sl22 hy10) ?_))))
  refine oV (v_loadI ty9 rfl) (asr_inv h fun q11 h => oV (v_cat rfl rfl q11) (oA rfl (rnf ?_)))
  refine w_seq (wsr (oM rfl (rnf (w_J (ι := Str) (γ := Unit) (fun q12 g12 => [(11, isv (q12))]) (fun q12 g12 => []) .nil h (fun q12 g12 h => ?_) (fun J13 h hJ13 => ?_)))))
  ·
   refine wsr (oM rfl (oM rfl (cal_inv h fun y17 hy17 h => oT (t_call (law10_made_w hy17) hT (.same rfl (.same rfl .nil)) .nil (fun R H' hR => ?_)))))
   obtain ⟨rfl, rfl⟩ := hR
   refine oM rfl (oV (v_extract rfl rfl) (oV (v_extract rfl rfl) (oV (v_extract rfl rfl) (oT (t_alloc _ ze33 fun b18 => ?_)))))
   refine oT (t_storeC (y' := (y17.1 : GTab)) ty33 rfl rfl (fun _ _ h => h) .here rfl (rl_upd (upd_imm 12 .here rfl) (oA rfl (oA rfl (rnf ?_)))))
   refine w_seq (wsr (oM rfl (oM rfl (rl_j (jb 55) je .nil h 3 rfl (fun q19 g19 h => ?_) (fun J20 h hJ20 => ?_)))))
   ·
    refine rnf (w_condM h rfl (fun _ h => ?_) (fun _ h => ?_))
    ·
     refine wsr (cal_inv h fun y22 hy22 h => oT (t_call (law10_awake_w hy22) hT .nil .nil (fun R H' hR => ?_)))
     obtain ⟨rfl, rfl⟩ := hR
     refine oM rfl (rl_j (jb 60) je .nil h 3 rfl (fun q23 g23 h => ?_) (fun J24 h hJ24 => ?_))
     ·
      refine oM rfl (rl_j (jb 64) je .nil h 3 rfl (fun q26 g26 h => ?_) (fun J27 h hJ27 => ?_))
      ·
       refine oA rfl (rnf (w_ret (ret_nxt (ret_post (.tmp rfl .nil) .nil ?_))))
       obtain rfl := Option.some.inj h
       exact ⟨rfl, rfl⟩
      ·
       refine rl_condM (j := 61) h rfl (fun g28 h => ?_) (fun g28 h => ?_)
       ·
        exact oK 61 rfl rfl rfl g28 (v_move rfl) (oK 61 rfl rfl rfl g28 (v_eql rfl rfl) (oV (v_pick_t rfl g28 rfl) (hJ27 _ () h _ (ji 3 64 rfl rfl rfl))))
       ·
        exact oP 61 rfl rfl g28 (oP 61 rfl rfl g28 (oV (v_pick_f rfl g28 rfl) (hJ27 _ () h _ (ji 3 64 rfl rfl rfl))))
     ·
      refine rl_condM (j := 57) h rfl (fun g25 h => ?_) (fun g25 h => ?_)
      ·
       exact oK 57 rfl rfl rfl g25 (v_move rfl) (oK 57 rfl rfl rfl g25 (v_eql rfl rfl) (oV (v_pick_t rfl g25 rfl) (hJ24 _ () h _ (ji 3 60 rfl rfl rfl))))
      ·
       exact oP 57 rfl rfl g25 (oP 57 rfl rfl g25 (oV (v_pick_f rfl g25 rfl) (hJ24 _ () h _ (ji 3 60 rfl rfl rfl))))
    ·
     refine wkf (wsr (oM rfl (oV (v_eql rfl rfl) (oM rfl ?_))))
     refine rl_j (jb 78) je .nil h 11 rfl (fun q29 g29 h => ?_) (fun J30 h hJ30 => ?_)
     ·
      refine oA rfl (rnf (wsr (oV (v_build (z := (Tag.mk (2 : Int) (3 : Int))) rfl bu66 ze66 (.cons Tag.f0 fd66_0 rfl (fun _ _ h => h) (.cons Tag.f1 fd66_1 rfl (fun _ _ h => h) .nil))) (oT (t_buildSlice (l := ([(Tag.mk (2 : Int) (3 : Int))] : (List Tag))) el37 (.cons rfl (fun _ _ h => h) .nil) rfl rfl ?_)))))
      refine oA rfl (rnf (w_seq (wsr (oM rfl ?_))))
      refine oV (v_not rfl) (oM rfl (rl_j (jb 86) je .nil h 3 rfl (fun q39 g39 h => ?_) (fun J40 h hJ40 => ?_)))
      ·
       refine rnf (w_J (ι := (List Tag)) (γ := Tok) (fun q42 g42 => [(16, appv g42 (q42))]) (fun q42 g42 => [tokE g42]) .nil h (fun q42 g42 h => ?_) (fun J43 h hJ43 => ?_))
       ·
        refine wsr (oV (v_loadI ty33 rfl) (cal_inv h fun y47 hy47 h => oT (t_call (table_Find_w hy47) hT (.same rfl (.same rfl .nil)) .nil (fun R H' hR => ?_))))
        obtain ⟨rfl, rfl⟩ := hR
        refine oA rfl (rnf (wsr (cal_inv h fun y48 hy48 h => oT (t_call (law10_awake_w hy48) hT .nil .nil (fun R H' hR => ?_)))))
        obtain ⟨rfl, rfl⟩ := hR
        refine oM rfl (rl_j (jb 97) je .nil h 3 rfl (fun q49 g49 h => ?_) (fun J50 h hJ50 => ?_))
        ·
         refine oM rfl (rl_j (jb 101) je .nil h 3 rfl (fun q52 g52 h => ?_) (fun J53 h hJ53 => ?_))
         ·
          refine oM rfl (rl_j (jb 108) je .nil h 6 rfl (fun q55 g55 h => ?_) (fun J56 h hJ56 => ?_))
          ·
           refine oM rfl (rl_j (jb 118) je .nil h 9 rfl (fun q58 g58 h => ?_) (fun J59 h hJ59 => ?_))
           ·
            refine oA rfl (rnf (w_ret (ret_post (.tmp rfl .nil) .nil ?_)))
            obtain rfl := Option.some.inj h
            exact ⟨rfl, rfl⟩
           ·
            refine rl_condM (j := 109) h rfl (fun g60 h => ?_) (fun g60 h => ?_)
            ·
             refine oK 109 rfl rfl rfl g60 (v_fi rfl GTab.f3 fd33_3 rfl (z := y17.1.types)) (oK 109 rfl rfl rfl g60 (v_loadI ty31 rfl) (oK 109 rfl rfl rfl g60 (v_move rfl) (cal_inv h fun y61 hy61 h => oK 109 rfl rfl rfl g60 (v_ix (l := y17.1.types) rfl (fun _ _ h => h) rfl sl31 hy61) ?_)))
             refine oK 109 rfl rfl rfl g60 (v_fi rfl GTyp.f1 fd43_1 rfl (z := y61.tags)) (oK 109 rfl rfl rfl g60 (v_loadI ty37 rfl) (oK 109 rfl rfl rfl g60 (v_move rfl) (cal_inv h fun y62 hy62 h => op_take rfl rfl (dj := 109) rfl g60 (t_call (h_Plain_api_Tag_w hy62) hT (.same rfl (.cons rfl appv_isv .nil)) .nil (fun R H' hR => ?_)))))
             obtain ⟨rfl, rfl⟩ := hR
             exact oV (v_pick_t rfl g60 rfl) (hJ59 _ () h _ (join_imp 9 rfl rfl (mod_cons (j := 118) rfl (fun _ _ h => h) mod_nil) (.cons .here .nil)))
            ·
             refine oP 109 rfl rfl g60 (oP 109 rfl rfl g60 (oP 109 rfl rfl g60 (oP 109 rfl rfl g60 (oP 109 rfl rfl g60 ?_))))
             exact oP 109 rfl rfl g60 (oP 109 rfl rfl g60 (oP 109 rfl rfl g60 (oV (v_pick_f rfl g60 rfl) (hJ59 _ () h _ (join_imp 9 rfl rfl (mod_cons (j := 118) rfl (fun _ _ h => h) mod_nil) (.cons .here .nil))))))
          ·
           refine rl_condM (j := 102) h rfl (fun g57 h => ?_) (fun g57 h => ?_)
           ·
            refine oK 102 rfl rfl rfl g57 (v_move rfl) (oK 102 rfl rfl rfl g57 (v_fi rfl GTab.f3 fd33_3 rfl (z := y17.1.types)) (oK 102 rfl rfl rfl g57 (v_loadI ty31 rfl) (oK 102 rfl rfl rfl g57 (v_ln (l := y17.1.types) rfl (fun _ _ h => h) sl31) (oK 102 rfl rfl rfl g57 (v_lss rfl rfl) ?_))))
            exact oV (v_pick_t rfl g57 rfl) (hJ56 _ () h _ (join_imp 6 rfl rfl (mod_cons (j := 108) rfl (fun _ _ h => h) mod_nil) (.cons .here .nil)))
           ·
            refine oP 102 rfl rfl g57 (oP 102 rfl rfl g57 (oP 102 rfl rfl g57 (oP 102 rfl rfl g57 (oP 102 rfl rfl g57 ?_))))
            exact oV (v_pick_f rfl g57 rfl) (hJ56 _ () h _ (join_imp 6 rfl rfl (mod_cons (j := 108) rfl (fun _ _ h => h) mod_nil) (.cons .here .nil)))
         ·
          refine rl_condM (j := 98) h rfl (fun g54 h => ?_) (fun g54 h => ?_)
          ·
           exact oK 98 rfl rfl rfl g54 (v_move rfl) (oK 98 rfl rfl rfl g54 (v_geq rfl rfl) (oV (v_pick_t rfl g54 rfl) (hJ53 _ () h _ (join_imp 3 rfl rfl (mod_cons (j := 101) rfl (fun _ _ h => h) mod_nil) (.cons .here .nil)))))
          ·
           exact oP 98 rfl rfl g54 (oP 98 rfl rfl g54 (oV (v_pick_f rfl g54 rfl) (hJ53 _ () h _ (join_imp 3 rfl rfl (mod_cons (j := 101) rfl (fun _ _ h => h) mod_nil) (.cons .here .nil)))))
        ·
         refine rl_condM (j := 94) h rfl (fun g51 h => ?_) (fun g51 h => ?_)
         ·
          exact oK 94 rfl rfl rfl g51 (v_move rfl) (oK 94 rfl rfl rfl g51 (v_eql rfl rfl) (oV (v_pick_t rfl g51 rfl) (hJ50 _ () h _ (join_imp 3 rfl rfl (mod_cons (j := 97) rfl (fun _ _ h => h) mod_nil) (.cons .here .nil)))))
         ·
          exact oP 94 rfl rfl g51 (oP 94 rfl rfl g51 (oV (v_pick_f rfl g51 rfl) (hJ50 _ () h _ (join_imp 3 rfl rfl (mod_cons (j := 97) rfl (fun _ _ h => h) mod_nil) (.cons .here .nil)))))
       ·
        refine w_condM h rfl (fun _ h => ?_) (fun _ h => ?_)
        ·
         refine w_region (oM rfl (oV (v_build (z := (Tag.mk (0 : Int) (5 : Int))) rfl bu66 ze66 (.cons Tag.f1 fd66_1 rfl (fun _ _ h => h) .nil)) (oT (t_buildSlice (l := ([(Tag.mk (0 : Int) (5 : Int))] : (List Tag))) el37 (.cons rfl (fun _ _ h => h) .nil) rfl rfl (rl_upd (upd_tok) ?_)))))
         exact asr_inv h fun q46 h => oT (t_appC (l := ([(Tag.mk (2 : Int) (3 : Int))] : (List Tag))) (m := ([(Tag.mk (0 : Int) (5 : Int))] : (List Tag))) ap37_37 rfl (fun _ _ h => h) rfl appv_isv .here q46 fun t45 => oA rfl (rl_nil (hJ43 _ (t45) h _ (join_imp 5 rfl rfl (mod_cons (j := 16) rfl (fun _ _ h => h) mod_nil) (.cons .here .nil)))))
        ·
         exact w_skip (fin_upd (upd_tok) (hJ43 _ (none) h _ (join_imp 0 rfl rfl (mod_cons (j := 16) rfl (fun _ _ h => h) mod_nil) (.cons .here .nil))))
      ·
       refine rl_condM (j := 83) h rfl (fun g41 h => ?_) (fun g41 h => ?_)
       ·
        exact oK 83 rfl rfl rfl g41 (v_move rfl) (oK 83 rfl rfl rfl g41 (v_not rfl) (oV (v_pick_t rfl g41 rfl) (hJ40 _ () h _ (ji 3 86 rfl rfl rfl))))
       ·
        exact oP 83 rfl rfl g41 (oP 83 rfl rfl g41 (oV (v_pick_f rfl g41 rfl) (hJ40 _ () h _ (ji 3 86 rfl rfl rfl))))
     ·
      refine rl_condM (j := 67) h rfl (fun g31 h => ?_) (fun g31 h => ?_)
      ·
       refine oP 67 rfl rfl g31 (oP 67 rfl rfl g31 (oP 67 rfl rfl g31 (op_passU rfl (dj := 70) rfl (op_passU rfl (dj := 70) rfl ?_))))
       refine oP 67 rfl rfl g31 (oP 67 rfl rfl g31 (op_passU rfl (dj := 74) rfl (op_passU rfl (dj := 74) rfl (oP 67 rfl rfl g31 ?_))))
       exact oV (v_pick_t rfl g31 rfl) (hJ30 _ () h _ (ji 11 78 rfl rfl rfl))
      ·
       refine oK 67 rfl rfl rfl g31 (v_move rfl) (oK 67 rfl rfl rfl g31 (v_eql rfl rfl) (oK 67 rfl rfl rfl g31 (v_move rfl) (rl_j (jb 73) je .nil h 3 rfl (fun q32 g32 h => ?_) (fun J33 h hJ33 => ?_))))
       ·
        refine oK 67 rfl rfl rfl g31 (v_move rfl) (rl_j (jb 77) je .nil h 3 rfl (fun q35 g35 h => ?_) (fun J36 h hJ36 => ?_))
        ·
         exact oV (v_pick_f rfl g31 rfl) (hJ30 _ () h _ (ji 7 78 rfl rfl rfl))
        ·
         refine rl_condM (j := 74) h rfl (fun g37 h => ?_) (fun g37 h => ?_)
         ·
          exact oK 74 rfl rfl rfl g37 (v_move rfl) (oK 74 rfl rfl rfl g37 (v_not rfl) (oK 67 rfl rfl rfl g31 (v_pick_t rfl g37 rfl) (hJ36 _ () h _ (ji 3 77 rfl rfl rfl))))
         ·
          exact oP 74 rfl rfl g37 (oP 74 rfl rfl g37 (oK 67 rfl rfl rfl g31 (v_pick_f rfl g37 rfl) (hJ36 _ () h _ (ji 3 77 rfl rfl rfl))))
       ·
        refine rl_condM (j := 70) h rfl (fun g34 h => ?_) (fun g34 h => ?_)
        ·
         exact oK 70 rfl rfl rfl g34 (v_move rfl) (oK 70 rfl rfl rfl g34 (v_neq rfl rfl) (oK 67 rfl rfl rfl g31 (v_pick_t rfl g34 rfl) (hJ33 _ () h _ (ji 3 73 rfl rfl rfl))))
        ·
         exact oP 70 rfl rfl g34 (oP 70 rfl rfl g34 (oK 67 rfl rfl rfl g31 (v_pick_f rfl g34 rfl) (hJ33 _ () h _ (ji 3 73 rfl rfl rfl))))
   ·
    refine rl_condM (j := 52) h rfl (fun g21 h => ?_) (fun g21 h => ?_)
    ·
     exact oK 52 rfl rfl rfl g21 (v_move rfl) (oK 52 rfl rfl rfl g21 (v_eql rfl rfl) (oV (v_pick_t rfl g21 rfl) (hJ20 _ () h _ (ji 3 55 rfl rfl rfl))))
    ·
     exact oP 52 rfl rfl g21 (oP 52 rfl rfl g21 (oV (v_pick_f rfl g21 rfl) (hJ20 _ () h _ (ji 3 55 rfl rfl rfl))))
  ·
   refine w_condM h rfl (fun _ h => ?_) (fun _ h => ?_)
   ·
    refine w_region (oM rfl (asr_inv h fun q14 h => oV (v_cat rfl rfl q14) (oM rfl ?_)))
    exact asr_inv h fun q15 h => oV (v_cat rfl rfl q15) (oA rfl (rl_nil (hJ13 _ () h _ (ji 5 11 rfl rfl rfl))))
   ·
    refine w_region (oM rfl (oM rfl (asr_inv h fun q16 h => oV (v_cat rfl rfl q16) ?_)))
    exact oA rfl (rl_nil (hJ13 _ () h _ (ji 4 11 rfl rfl rfl)))
 ·
  refine w_condM h rfl (fun _ h => ?_) (fun _ h => ?_)
  ·
   exact w_region (oA rfl (rl_nil (hJ8 _ () h _ (ji 1 10 rfl rfl rfl))))
  ·
   exact w_skip (hJ8 _ () h _ (ji 0 10 rfl rfl rfl))

end Go.Proofs.YtiibmpdjkdjbiaaGreatDoor

