/- What the laws of this seat share: the tables of utf8, as the rows list them, and a world in which they lie so. No condition: general lemmas. -/
import Derived.Test.YtajbipkppngccaaDoorEoA
import Derived.Test.YtajbipkppngccaaDoorEoB
import Derived.Test.YtajbipkppngccaaDoorEoC
import Derived.Test.YtajbipkppngccaaDoorEoD
import Derived.Test.YtajbipkppngccaaDoorEoE
import Derived.Lib.LaidIn
import Derived.Lib.LaidU8T
import Derived.Deep.DeepHandedRow
import Derived.Deep.DeepWitnessRowRef
import Derived.ProofKit
import Derived.KernelRfl
import Derived.Test.YtajbipkppngccaaDoorRows
set_option linter.unusedVariables false
set_option linter.unusedSimpArgs false

namespace Go.Proofs.YtajbipkppngccaaDoor
open Go.Sy
set_option maxRecDepth 4000
theorem slices_Index_Lstring_string_w : ∀ {a_s : (List Str)} {a_v : Str} {r : Int}, slices_Index_Lstring_string a_s a_v = some r → Ctr Tryd.prog 59 [isv (a_s), isv (a_v)] [] (fun R H => R = oneOf [isv (r)] ∧ H = []) := by
 intro a_s a_v r h
 unfold slices_Index_Lstring_string at h
 refine spec_intro Tryd.func59 rfl (by decide +kernel) (by rfl) fun w0 S0 hT => ?_
 refine wsr (oA rfl (rnf (w_seq (wsr ?_))))
 refine oM rfl (oV (v_ln (l := a_s) rfl (fun _ _ h => h) sl22) (oM rfl (rnf (w_block ?_))))
 refine w_lp (ι := Int) (γ := Unit) (fun q1 g1 => [(8, isv (q1))]) (fun q1 g1 => []) h () (mod_cons (j := 8) rfl (fun _ _ h => h) mod_nil) .nil (fun L2 q1 g1 Q7 h hL2 eL2 rL2 => wsr (oV (v_lss rfl rfl) (rnf (w_seq ?_))))
 refine w_condM h rfl (fun _ h => ?_) (fun _ h => ?_)
 ·
  refine wkf (w_seq (w_block (wsr (oM rfl ?_))))
  refine oA rfl (rnf (wsr (oM rfl (oM rfl ?_))))
  refine oM rfl (cal_inv h fun y5 hy5 h => oV (v_ix (l := a_s) rfl (fun _ _ h => h) rfl sl22 hy5) (oV (v_loadI ty9 rfl) (oV (v_eqA eq9 rfl rfl) ?_)))
  refine rnf (w_condM h rfl (fun _ h => ?_) (fun _ h => ?_))
  ·
   refine wsr (oM rfl (oA rfl (rnf (w_ret ?_))))
   refine ret_block (ret_nxt (rL2 _ (ret_block (ret_nxt ?_))))
   refine ret_post (.tmp rfl .nil) .nil ?_
   obtain rfl := Option.some.inj h
   exact ⟨rfl, rfl⟩
  ·
   refine w_skip (fin_block (fin_nxt (w_region (ck_inv h fun q6 h => ?_))))
   exact oV (v_add rfl rfl q6) (oM rfl (rl_nil (hL2 _ () h _ (ji 12 8 rfl rfl rfl))))
 ·
  refine w_exit (exi_nxt (eL2 _ _ (exi_block (fin_nxt ?_))))
  refine wsr (oA rfl (rnf (w_ret (ret_post (.tmp rfl .nil) .nil ?_))))
  obtain rfl := Option.some.inj h
  exact ⟨rfl, rfl⟩


theorem table_Find_w : ∀ {a_t : GTab} {a_name : Str} {r : Int}, table_Find a_t a_name = some r → Ctr Tryd.prog 34 [isv (a_t), isv (a_name)] [] (fun R H => R = oneOf [isv (r)] ∧ H = []) := by
 intro a_t a_name r h
 unfold table_Find at h
 refine spec_intro Tryd.func34 rfl (by decide +kernel) (by rfl) fun w0 S0 hT => ?_
 refine wsr (oT (t_boxIC (y := a_t) rfl (fun _ _ h => h) (oA rfl (rnf (wsr ?_)))))
 refine oV (v_fi rfl GTab.f1 fd26_1 rfl (z := a_t.names)) (oV (v_loadI ty22 rfl) (oM rfl (cal_inv h fun y1 hy1 h => oT (t_call (slices_Index_Lstring_string_w hy1) hT (.same rfl (.same rfl .nil)) .nil (fun R H' hR => ?_)))))
 obtain ⟨rfl, rfl⟩ := hR
 refine oA rfl (rnf (w_seq (wsr (oM rfl ?_))))
 refine oV (v_lss rfl rfl) (oM rfl (rl_j (jb 18) je .nil h 6 rfl (fun q2 g2 h => ?_) (fun J3 h hJ3 => ?_)))
 ·
  refine rnf (w_condM h rfl (fun _ h => ?_) (fun _ h => ?_))
  ·
   refine wsr (oA rfl (rnf (w_ret (ret_nxt ?_))))
   refine ret_post (.tmp rfl .nil) .nil ?_
   obtain rfl := Option.some.inj h
   exact ⟨rfl, rfl⟩
  ·
   refine wkf (wsr (oV (v_fi rfl GTab.f2 fd26_2 rfl (z := a_t.roots)) (oV (v_loadI ty23 rfl) (oM rfl ?_))))
   refine cal_inv h fun y5 hy5 h => oV (v_ix (l := a_t.roots) rfl (fun _ _ h => h) rfl sl23 hy5) (oV (v_loadI ty3 rfl) (oA rfl (rnf ?_)))
   refine w_ret (ret_post (.tmp rfl .nil) .nil ?_)
   obtain rfl := Option.some.inj h
   exact ⟨rfl, rfl⟩
 ·
  refine rl_condM (j := 12) h rfl (fun g4 h => ?_) (fun g4 h => ?_)
  ·
   refine oP 12 rfl rfl g4 (oP 12 rfl rfl g4 (oP 12 rfl rfl g4 (oP 12 rfl rfl g4 (oP 12 rfl rfl g4 ?_))))
   exact oV (v_pick_t rfl g4 rfl) (hJ3 _ () h _ (ji 6 18 rfl rfl rfl))
  ·
   refine oK 12 rfl rfl rfl g4 (v_move rfl) (oK 12 rfl rfl rfl g4 (v_fi rfl GTab.f2 fd26_2 rfl (z := a_t.roots)) (oK 12 rfl rfl rfl g4 (v_loadI ty23 rfl) (oK 12 rfl rfl rfl g4 (v_ln (l := a_t.roots) rfl (fun _ _ h => h) sl23) (oK 12 rfl rfl rfl g4 (v_geq rfl rfl) ?_))))
   exact oV (v_pick_f rfl g4 rfl) (hJ3 _ () h _ (ji 6 18 rfl rfl rfl))


theorem extend_sides_types_w : ∀ {a_s : GXsd} {a_i : Int} {a_k : Int} {r : GTyp × GTyp × Bool}, extend_sides_types a_s a_i a_k = some r → Ctr Tryd.prog 60 [isv (a_s), isv (a_i), isv (a_k)] [] (fun R H => R = oneOf [isv (r.1), isv (r.2.1), isv (r.2.2)] ∧ H = []) := by
 intro a_s a_i a_k r h
 unfold extend_sides_types at h
 refine spec_intro Tryd.func60 rfl (by decide +kernel) (by rfl) fun w0 S0 hT => ?_
 refine wsr (oT (t_boxIC (y := a_s) rfl (fun _ _ h => h) (oT (t_alloc _ ze58 fun b1 => oT (t_alloc _ ze58 fun b2 => oA rfl ?_)))))
 refine rnf (w_seq (wsr (oM rfl (oV (v_lss rfl rfl) ?_))))
 refine oM rfl (rl_j (jb 18) je .nil h 7 rfl (fun q3 g3 h => ?_) (fun J4 h hJ4 => ?_))
 ·
  refine oM rfl (rl_j (jb 22) je .nil h 3 rfl (fun q6 g6 h => ?_) (fun J7 h hJ7 => ?_))
  ·
   refine oM rfl (rl_j (jb 30) je .nil h 7 rfl (fun q9 g9 h => ?_) (fun J10 h hJ10 => ?_))
   ·
    refine rnf (w_condM h rfl (fun _ h => ?_) (fun _ h => ?_))
    ·
     refine wsr (oV (v_build (z := (GTyp.mk (0 : Int) ([] : (List Tag)) (GCon.mk false false false false (0 : Int) (0 : Int)) ([] : (List GItem)) ([] : (List GFld)) (0 : Int) false (0 : Int))) rfl bu58 ze58 .nil) (oV (v_build (z := (GTyp.mk (0 : Int) ([] : (List Tag)) (GCon.mk false false false false (0 : Int) (0 : Int)) ([] : (List GItem)) ([] : (List GFld)) (0 : Int) false (0 : Int))) rfl bu58 ze58 .nil) (oT (t_storeC (y' := ((GTyp.mk (0 : Int) ([] : (List Tag)) (GCon.mk false false false false (0 : Int) (0 : Int)) ([] : (List GItem)) ([] : (List GFld)) (0 : Int) false (0 : Int)) : GTyp)) ty58 rfl rfl (fun _ _ h => h) (.there .here) rfl ?_))))
     refine oT (t_storeC (y' := ((GTyp.mk (0 : Int) ([] : (List Tag)) (GCon.mk false false false false (0 : Int) (0 : Int)) ([] : (List GItem)) ([] : (List GFld)) (0 : Int) false (0 : Int)) : GTyp)) ty58 rfl rfl (fun _ _ h => h) (.there .here) rfl (oA rfl (rnf (w_ret (ret_nxt ?_)))))
     refine ret_post (.cell rfl (.there .here) ty58 (.cell rfl .here ty58 (.tmp rfl .nil))) .nil ?_
     obtain rfl := Option.some.inj h
     exact ⟨rfl, rfl⟩
    ·
     refine wkf (w_seq (w_regionD (.v 0 (.v 1 (.v 2 (.v 3 (.v 4 (.v 5 (.v 6 (.v 7 (.v 8 (.v 9 (.v 10 (.v 11 (.t 12 (.t 13 (.v 14 .nil))))))))))))))) moOrd (by kernel_rfl) ?_))
     refine rd_v rfl (v_fi rfl GXsd.f0 fd82_0 rfl (z := a_s.a)) (rd_v rfl (v_fi rfl GTab.f3 fd26_3 rfl (z := a_s.a.types)) (rd_v rfl (v_loadI ty24 rfl) (rvm rfl rfl (cal_inv h fun y12 hy12 h => ?_))))
     refine rd_v rfl (v_ix (l := a_s.a.types) rfl (fun _ _ h => h) rfl sl24 hy12) (rd_v rfl (v_loadI ty58 rfl) (rd_v rfl (v_fi rfl GXsd.f1 fd82_1 rfl (z := a_s.b)) (rd_v rfl (v_fi rfl GTab.f3 fd26_3 rfl (z := a_s.b.types)) (rd_v rfl (v_loadI ty24 rfl) ?_))))
     refine rvm rfl rfl (cal_inv h fun y13 hy13 h => rd_v rfl (v_ix (l := a_s.b.types) rfl (fun _ _ h => h) rfl sl24 hy13) (rd_v rfl (v_loadI ty58 rfl) (rd_t rfl rfl (t_storeC (y' := (y12 : GTyp)) ty58 rfl rfl (fun _ _ h => h) (.there .here) rfl ?_))))
     refine rd_t rfl rfl (t_storeC (y' := (y13 : GTyp)) ty58 rfl rfl (fun _ _ h => h) (.there .here) rfl (rd_v rfl (v_assign rfl) (rd_nil (fin_nxt (w_ret ?_)))))
     refine ret_post (.cell rfl (.there .here) ty58 (.cell rfl .here ty58 (.tmp rfl .nil))) .nil ?_
     obtain rfl := Option.some.inj h
     exact ⟨rfl, rfl⟩
   ·
    refine rl_condM (j := 23) h rfl (fun g11 h => ?_) (fun g11 h => ?_)
    ·
     refine oP 23 rfl rfl g11 (oP 23 rfl rfl g11 (oP 23 rfl rfl g11 (oP 23 rfl rfl g11 (oP 23 rfl rfl g11 ?_))))
     exact oP 23 rfl rfl g11 (oV (v_pick_t rfl g11 rfl) (hJ10 _ () h _ (join_imp 7 rfl rfl (mod_cons (j := 30) rfl (fun _ _ h => h) mod_nil) (.cons .here (.cons .here .nil)))))
    ·
     refine oK 23 rfl rfl rfl g11 (v_move rfl) (oK 23 rfl rfl rfl g11 (v_fi rfl GXsd.f1 fd82_1 rfl (z := a_s.b)) (oK 23 rfl rfl rfl g11 (v_fi rfl GTab.f3 fd26_3 rfl (z := a_s.b.types)) (oK 23 rfl rfl rfl g11 (v_loadI ty24 rfl) (oK 23 rfl rfl rfl g11 (v_ln (l := a_s.b.types) rfl (fun _ _ h => h) sl24) ?_))))
     exact oK 23 rfl rfl rfl g11 (v_geq rfl rfl) (oV (v_pick_f rfl g11 rfl) (hJ10 _ () h _ (join_imp 7 rfl rfl (mod_cons (j := 30) rfl (fun _ _ h => h) mod_nil) (.cons .here (.cons .here .nil)))))
  ·
   refine rl_condM (j := 19) h rfl (fun g8 h => ?_) (fun g8 h => ?_)
   ·
    exact oP 19 rfl rfl g8 (oP 19 rfl rfl g8 (oV (v_pick_t rfl g8 rfl) (hJ7 _ () h _ (join_imp 3 rfl rfl (mod_cons (j := 22) rfl (fun _ _ h => h) mod_nil) (.cons .here (.cons .here .nil))))))
   ·
    exact oK 19 rfl rfl rfl g8 (v_move rfl) (oK 19 rfl rfl rfl g8 (v_lss rfl rfl) (oV (v_pick_f rfl g8 rfl) (hJ7 _ () h _ (join_imp 3 rfl rfl (mod_cons (j := 22) rfl (fun _ _ h => h) mod_nil) (.cons .here (.cons .here .nil))))))
 ·
  refine rl_condM (j := 11) h rfl (fun g5 h => ?_) (fun g5 h => ?_)
  ·
   refine oP 11 rfl rfl g5 (oP 11 rfl rfl g5 (oP 11 rfl rfl g5 (oP 11 rfl rfl g5 (oP 11 rfl rfl g5 ?_))))
   exact oP 11 rfl rfl g5 (oV (v_pick_t rfl g5 rfl) (hJ4 _ () h _ (join_imp 7 rfl rfl (mod_cons (j := 18) rfl (fun _ _ h => h) mod_nil) (.cons .here (.cons .here .nil)))))
  ·
   refine oK 11 rfl rfl rfl g5 (v_move rfl) (oK 11 rfl rfl rfl g5 (v_fi rfl GXsd.f0 fd82_0 rfl (z := a_s.a)) (oK 11 rfl rfl rfl g5 (v_fi rfl GTab.f3 fd26_3 rfl (z := a_s.a.types)) (oK 11 rfl rfl rfl g5 (v_loadI ty24 rfl) (oK 11 rfl rfl rfl g5 (v_ln (l := a_s.a.types) rfl (fun _ _ h => h) sl24) ?_))))
   exact oK 11 rfl rfl rfl g5 (v_geq rfl rfl) (oV (v_pick_f rfl g5 rfl) (hJ4 _ () h _ (join_imp 7 rfl rfl (mod_cons (j := 18) rfl (fun _ _ h => h) mod_nil) (.cons .here (.cons .here .nil)))))


theorem slices_Equal_Lapi_Tag_api_Tag_w : ∀ {a_s1 : (List Tag)} {a_s2 : (List Tag)} {r : Bool}, slices_Equal_Lapi_Tag_api_Tag a_s1 a_s2 = some r → Ctr Tryd.prog 61 [isv (a_s1), isv (a_s2)] [] (fun R H => R = oneOf [isv (r)] ∧ H = []) := by
 intro a_s1 a_s2 r h
 unfold slices_Equal_Lapi_Tag_api_Tag at h
 refine spec_intro Tryd.func61 rfl (by decide +kernel) (by rfl) fun w0 S0 hT => ?_
 refine wsr (oA rfl (rnf (w_seq (wsr ?_))))
 refine oM rfl (oV (v_ln (l := a_s1) rfl (fun _ _ h => h) sl52) (oM rfl (oV (v_ln (l := a_s2) rfl (fun _ _ h => h) sl52) (oV (v_neq rfl rfl) ?_))))
 refine rnf (w_condM h rfl (fun _ h => ?_) (fun _ h => ?_))
 ·
  refine wsr (oA rfl (rnf (w_ret (ret_nxt ?_))))
  refine ret_post (.tmp rfl .nil) .nil ?_
  obtain rfl := Option.some.inj h
  exact ⟨rfl, rfl⟩
 ·
  refine wkf (w_seq (wsr (oM rfl (oV (v_ln (l := a_s1) rfl (fun _ _ h => h) sl52) ?_))))
  refine oM rfl (rnf (w_block (w_lp (ι := Int) (γ := Unit) (fun q1 g1 => [(13, isv (q1))]) (fun q1 g1 => []) h () (mod_cons (j := 13) rfl (fun _ _ h => h) mod_nil) .nil (fun L2 q1 g1 Q9 h hL2 eL2 rL2 => wsr ?_))))
  refine oV (v_lss rfl rfl) (rnf (w_seq (w_condM h rfl (fun _ h => ?_) (fun _ h => ?_))))
  ·
   refine wkf (w_seq (w_block (wsr (oM rfl ?_))))
   refine oA rfl (rnf (w_seq (w_regionD (.v 0 (.v 1 (.v 2 (.v 3 (.v 4 (.v 5 (.v 6 (.v 7 (.v 8 .nil))))))))) moOrd (by kernel_rfl) ?_)))
   refine rvm rfl rfl (rvm rfl rfl (cal_inv h fun y6 hy6 h => rd_v rfl (v_ix (l := a_s1) rfl (fun _ _ h => h) rfl sl52 hy6) (rd_v rfl (v_loadI ty61 rfl) ?_)))
   refine rvm rfl rfl (rvm rfl rfl (cal_inv h fun y7 hy7 h => rd_v rfl (v_ix (l := a_s2) rfl (fun _ _ h => h) rfl sl52 hy7) (rd_v rfl (v_loadI ty61 rfl) ?_)))
   refine rd_v rfl (v_neA eq61 rfl rfl) (rd_nil (fin_nxt (w_condM h rfl (fun _ h => ?_) (fun _ h => ?_))))
   ·
    refine wsr (oA rfl (rnf (w_ret (ret_block ?_))))
    refine ret_nxt (rL2 _ (ret_block (ret_nxt (ret_post (.tmp rfl .nil) .nil ?_))))
    obtain rfl := Option.some.inj h
    exact ⟨rfl, rfl⟩
   ·
    refine w_skip (fin_block (fin_nxt (w_region (ck_inv h fun q8 h => ?_))))
    exact oV (v_add rfl rfl q8) (oM rfl (rl_nil (hL2 _ () h _ (ji 15 13 rfl rfl rfl))))
  ·
   refine w_exit (exi_nxt (eL2 _ _ (exi_block (fin_nxt ?_))))
   refine wsr (oA rfl (rnf (w_ret (ret_post (.tmp rfl .nil) .nil ?_))))
   obtain rfl := Option.some.inj h
   exact ⟨rfl, rfl⟩


theorem slices_Equal_Lapi_Item_api_Item_w : ∀ {a_s1 : (List GItem)} {a_s2 : (List GItem)} {r : Bool}, slices_Equal_Lapi_Item_api_Item a_s1 a_s2 = some r → Ctr Tryd.prog 88 [isv (a_s1), isv (a_s2)] [] (fun R H => R = oneOf [isv (r)] ∧ H = []) := by
 intro a_s1 a_s2 r h
 unfold slices_Equal_Lapi_Item_api_Item at h
 refine spec_intro Tryd.func88 rfl (by decide +kernel) (by rfl) fun w0 S0 hT => ?_
 refine wsr (oA rfl (rnf (w_seq (wsr ?_))))
 refine oM rfl (oV (v_ln (l := a_s1) rfl (fun _ _ h => h) sl55) (oM rfl (oV (v_ln (l := a_s2) rfl (fun _ _ h => h) sl55) (oV (v_neq rfl rfl) ?_))))
 refine rnf (w_condM h rfl (fun _ h => ?_) (fun _ h => ?_))
 ·
  refine wsr (oA rfl (rnf (w_ret (ret_nxt ?_))))
  refine ret_post (.tmp rfl .nil) .nil ?_
  obtain rfl := Option.some.inj h
  exact ⟨rfl, rfl⟩
 ·
  refine wkf (w_seq (wsr (oM rfl (oV (v_ln (l := a_s1) rfl (fun _ _ h => h) sl55) ?_))))
  refine oM rfl (rnf (w_block (w_lp (ι := Int) (γ := Unit) (fun q1 g1 => [(13, isv (q1))]) (fun q1 g1 => []) h () (mod_cons (j := 13) rfl (fun _ _ h => h) mod_nil) .nil (fun L2 q1 g1 Q9 h hL2 eL2 rL2 => wsr ?_))))
  refine oV (v_lss rfl rfl) (rnf (w_seq (w_condM h rfl (fun _ h => ?_) (fun _ h => ?_))))
  ·
   refine wkf (w_seq (w_block (wsr (oM rfl ?_))))
   refine oA rfl (rnf (w_seq (w_regionD (.v 0 (.v 1 (.v 2 (.v 3 (.v 4 (.v 5 (.v 6 (.v 7 (.v 8 .nil))))))))) moOrd (by kernel_rfl) ?_)))
   refine rvm rfl rfl (rvm rfl rfl (cal_inv h fun y6 hy6 h => rd_v rfl (v_ix (l := a_s1) rfl (fun _ _ h => h) rfl sl55 hy6) (rd_v rfl (v_loadI ty71 rfl) ?_)))
   refine rvm rfl rfl (rvm rfl rfl (cal_inv h fun y7 hy7 h => rd_v rfl (v_ix (l := a_s2) rfl (fun _ _ h => h) rfl sl55 hy7) (rd_v rfl (v_loadI ty71 rfl) ?_)))
   refine rd_v rfl (v_neA eq71 rfl rfl) (rd_nil (fin_nxt (w_condM h rfl (fun _ h => ?_) (fun _ h => ?_))))
   ·
    refine wsr (oA rfl (rnf (w_ret (ret_block ?_))))
    refine ret_nxt (rL2 _ (ret_block (ret_nxt (ret_post (.tmp rfl .nil) .nil ?_))))
    obtain rfl := Option.some.inj h
    exact ⟨rfl, rfl⟩
   ·
    refine w_skip (fin_block (fin_nxt (w_region (ck_inv h fun q8 h => ?_))))
    exact oV (v_add rfl rfl q8) (oM rfl (rl_nil (hL2 _ () h _ (ji 15 13 rfl rfl rfl))))
  ·
   refine w_exit (exi_nxt (eL2 _ _ (exi_block (fin_nxt ?_))))
   refine wsr (oA rfl (rnf (w_ret (ret_post (.tmp rfl .nil) .nil ?_))))
   obtain rfl := Option.some.inj h
   exact ⟨rfl, rfl⟩


theorem extend_items_w : ∀ {a_x : GTyp} {a_y : GTyp} {r : Bool}, extend_items a_x a_y = some r → Ctr Tryd.prog 62 [isv (a_x), isv (a_y)] [] (fun R H => R = oneOf [isv (r)] ∧ H = []) := by
 intro a_x a_y r h
 unfold extend_items at h
 refine spec_intro Tryd.func62 rfl (by decide +kernel) (by rfl) fun w0 S0 hT => ?_
 refine wsr (oT (t_boxIC (y := a_x) rfl (fun _ _ h => h) (oT (t_boxIC (y := a_y) rfl (fun _ _ h => h) (oA rfl (rnf ?_))))))
 refine wsr (oV (v_fi rfl GTyp.f3 fd58_3 rfl (z := a_x.items)) (oV (v_loadI ty55 rfl) (oV (v_ln (l := a_x.items) rfl (fun _ _ h => h) sl55) (oA rfl ?_))))
 refine rnf (w_seq (w_regionD (.v 0 (.v 1 (.v 2 (.v 3 (.v 4 (.v 5 (.v 6 (.v 7 (.v 8 (.v 9 (.v 10 (.v 11 (.v 12 (.v 13 (.v 14 (.v 15 (.v 16 (.v 17 (.v 18 (.t 19 (.v 20 (.v 21 (.v 22 (.v 23 (.v 24 (.v 25 (.v 26 (.v 27 (.v 28 (.v 29 (.v 30 (.v 31 (.v 32 .nil))))))))))))))))))))))))))))))))) moOrd (by kernel_rfl) ?_))
 refine rd_v rfl (v_fi rfl GTyp.f5 fd58_5 rfl (z := a_x.root)) (rd_v rfl (v_loadI ty3 rfl) (rd_v rfl (v_fi rfl GTyp.f5 fd58_5 rfl (z := a_y.root)) (rd_v rfl (v_loadI ty3 rfl) (rd_v rfl (v_eql rfl rfl) ?_))))
 refine rvm rfl rfl (rd_j (jb 20) je .nil h 6 rfl (fun q1 g1 h => ?_) (fun J2 h hJ2 => ?_))
 ·
  refine rvm rfl rfl (rd_j (jb 29) je .nil h 8 rfl (fun q4 g4 h => ?_) (fun J5 h hJ5 => ?_))
  ·
   refine rvm rfl rfl (rd_j (jb 40) je .nil h 10 rfl (fun q9 g9 h => ?_) (fun J10 h hJ10 => ?_))
   ·
    refine rd_v rfl (v_assign rfl) (rd_nil (fin_nxt (w_ret (ret_post (.tmp rfl .nil) .nil ?_))))
    obtain rfl := Option.some.inj h
    exact ⟨rfl, rfl⟩
   ·
    refine rd_condM (j := 30) h rfl (fun g11 h => ?_) (fun g11 h => ?_)
    ·
     refine rvt 30 rfl rfl rfl g11 (v_fi rfl GTyp.f6 fd58_6 rfl (z := a_x.more)) (rvt 30 rfl rfl rfl g11 (v_loadI ty4 rfl) (rvt 30 rfl rfl rfl g11 (v_move rfl) (rd_j (jb 39) je .nil h 6 rfl (fun q12 g12 h => ?_) (fun J13 h hJ13 => ?_))))
     ·
      exact rd_v rfl (v_pick_t rfl g11 rfl) (hJ10 _ () h _ (ji 5 40 rfl rfl rfl))
     ·
      refine rd_condM (j := 33) h rfl (fun g14 h => ?_) (fun g14 h => ?_)
      ·
       refine rpv 33 rfl rfl rfl g14 (rpv 33 rfl rfl rfl g14 (rpv 33 rfl rfl rfl g14 (rpv 33 rfl rfl rfl g14 (rpv 33 rfl rfl rfl g14 ?_))))
       exact rvt 30 rfl rfl rfl g11 (v_pick_t rfl g14 rfl) (hJ13 _ () h _ (ji 6 39 rfl rfl rfl))
      ·
       refine rvt 33 rfl rfl rfl g14 (v_fi rfl GTyp.f3 fd58_3 rfl (z := a_y.items)) (rvt 33 rfl rfl rfl g14 (v_loadI ty55 rfl) (rvt 33 rfl rfl rfl g14 (v_ln (l := a_y.items) rfl (fun _ _ h => h) sl55) (rvt 33 rfl rfl rfl g14 (v_move rfl) (rvt 33 rfl rfl rfl g14 (v_eql rfl rfl) ?_))))
       exact rvt 30 rfl rfl rfl g11 (v_pick_f rfl g14 rfl) (hJ13 _ () h _ (ji 6 39 rfl rfl rfl))
    ·
     refine rpv 30 rfl rfl rfl g11 (rpv 30 rfl rfl rfl g11 (rpv 30 rfl rfl rfl g11 (rd_passUV rfl rfl (dj := 33) rfl (rd_passUV rfl rfl (dj := 33) rfl ?_))))
     refine rd_passUV rfl rfl (dj := 33) rfl (rd_passUV rfl rfl (dj := 33) rfl (rd_passUV rfl rfl (dj := 33) rfl (rpv 30 rfl rfl rfl g11 (rd_v rfl (v_pick_f rfl g11 rfl) ?_))))
     exact hJ10 _ () h _ (ji 10 40 rfl rfl rfl)
  ·
   refine rd_condM (j := 21) h rfl (fun g6 h => ?_) (fun g6 h => ?_)
   ·
    refine rvt 21 rfl rfl rfl g6 (v_fi rfl GTyp.f3 fd58_3 rfl (z := a_y.items)) (rvt 21 rfl rfl rfl g6 (v_loadI ty55 rfl) (rvt 21 rfl rfl rfl g6 (v_move rfl) (asd_inv h fun q7 h => rvt 21 rfl rfl rfl g6 (v_sl (l := a_y.items) rfl (fun _ _ h => h) sl55 (.inl ⟨rfl, rfl⟩) (.inr ⟨_, rfl, rfl⟩) q7.1 q7.2.1 q7.2.2) ?_)))
    refine rvt 21 rfl rfl rfl g6 (v_fi rfl GTyp.f3 fd58_3 rfl (z := a_x.items)) (rvt 21 rfl rfl rfl g6 (v_loadI ty55 rfl) (cal_inv h fun y8 hy8 h => rd_tt rfl rfl rfl (dj := 21) rfl g6 (t_call (slices_Equal_Lapi_Item_api_Item_w hy8) hT (.same rfl (.same rfl .nil)) .nil (fun R H' hR => ?_))))
    obtain ⟨rfl, rfl⟩ := hR
    exact rd_v rfl (v_pick_t rfl g6 rfl) (hJ5 _ () h _ (ji 8 29 rfl rfl rfl))
   ·
    refine rpv 21 rfl rfl rfl g6 (rpv 21 rfl rfl rfl g6 (rpv 21 rfl rfl rfl g6 (rpv 21 rfl rfl rfl g6 (rpv 21 rfl rfl rfl g6 ?_))))
    exact rpv 21 rfl rfl rfl g6 (rd_passT rfl rfl (dj := 21) rfl g6 (rd_v rfl (v_pick_f rfl g6 rfl) (hJ5 _ () h _ (ji 8 29 rfl rfl rfl))))
 ·
  refine rd_condM (j := 14) h rfl (fun g3 h => ?_) (fun g3 h => ?_)
  ·
   refine rvt 14 rfl rfl rfl g3 (v_fi rfl GTyp.f3 fd58_3 rfl (z := a_y.items)) (rvt 14 rfl rfl rfl g3 (v_loadI ty55 rfl) (rvt 14 rfl rfl rfl g3 (v_ln (l := a_y.items) rfl (fun _ _ h => h) sl55) (rvt 14 rfl rfl rfl g3 (v_move rfl) (rvt 14 rfl rfl rfl g3 (v_geq rfl rfl) ?_))))
   exact rd_v rfl (v_pick_t rfl g3 rfl) (hJ2 _ () h _ (ji 6 20 rfl rfl rfl))
  ·
   refine rpv 14 rfl rfl rfl g3 (rpv 14 rfl rfl rfl g3 (rpv 14 rfl rfl rfl g3 (rpv 14 rfl rfl rfl g3 (rpv 14 rfl rfl rfl g3 ?_))))
   exact rd_v rfl (v_pick_f rfl g3 rfl) (hJ2 _ () h _ (ji 6 20 rfl rfl rfl))


theorem bytes_Equal_w : ∀ {a_a : (List UInt8)} {a_b : (List UInt8)} {r : Bool}, bytes_Equal a_a a_b = some r → Ctr Tryd.prog 127 [isv (a_a), isv (a_b)] [] (fun R H => R = oneOf [isv (r)] ∧ H = []) := by
 intro a_a a_b r h
 unfold bytes_Equal at h
 refine spec_intro Tryd.func127 rfl (by decide +kernel) (by rfl) fun w0 S0 hT => ?_
 refine wsr (oA rfl (rnf (wsr (oM rfl ?_))))
 refine oV (v_bs (l := a_a) Tryd.underlying63 Tryd.underlying5 Tryd.underlying9 rfl (fun _ _ h => h)) (oM rfl (oV (v_bs (l := a_b) Tryd.underlying63 Tryd.underlying5 Tryd.underlying9 rfl (fun _ _ h => h)) (oV (v_eqA eq9 rfl rfl) (oA rfl ?_))))
 refine rnf (w_ret (ret_post (.tmp rfl .nil) .nil ?_))
 obtain rfl := Option.some.inj h
 exact ⟨rfl, rfl⟩


theorem value_sameRaw_w : ∀ {a_a : Raw} {a_b : Raw} {r : Bool}, value_sameRaw a_a a_b = some r → Ctr Tryd.prog 130 [isv (a_a), isv (a_b)] [] (fun R H => R = oneOf [isv (r)] ∧ H = []) := by
 intro a_a a_b r h
 unfold value_sameRaw at h
 refine spec_intro Tryd.func130 rfl (by decide +kernel) (by rfl) fun w0 S0 hT => ?_
 refine wsr (oT (t_boxIC (y := a_a) rfl (fun _ _ h => h) (oT (t_boxIC (y := a_b) rfl (fun _ _ h => h) (oA rfl (rnf ?_))))))
 refine wsr (oV (v_fi rfl Raw.f0 fd149_0 rfl (z := a_a.n)) (oV (v_loadI ty3 rfl) (oV (v_fi rfl Raw.f0 fd149_0 rfl (z := a_b.n)) (oV (v_loadI ty3 rfl) ?_))))
 refine oV (v_eql rfl rfl) (oM rfl (rl_j (jb 16) je .nil h 6 rfl (fun q1 g1 h => ?_) (fun J2 h hJ2 => ?_)))
 ·
  refine oA rfl (rnf (w_ret (ret_post (.tmp rfl .nil) .nil ?_)))
  obtain rfl := Option.some.inj h
  exact ⟨rfl, rfl⟩
 ·
  refine rl_condM (j := 10) h rfl (fun g3 h => ?_) (fun g3 h => ?_)
  ·
   refine oK 10 rfl rfl rfl g3 (v_fi rfl Raw.f1 fd149_1 rfl (z := a_a.b)) (oK 10 rfl rfl rfl g3 (v_loadI ty63 rfl) (oK 10 rfl rfl rfl g3 (v_fi rfl Raw.f1 fd149_1 rfl (z := a_b.b)) (oK 10 rfl rfl rfl g3 (v_loadI ty63 rfl) (cal_inv h fun y4 hy4 h => ?_))))
   refine op_take rfl rfl (dj := 10) rfl g3 (t_call (bytes_Equal_w hy4) hT (.same rfl (.same rfl .nil)) .nil (fun R H' hR => ?_))
   obtain ⟨rfl, rfl⟩ := hR
   exact oV (v_pick_t rfl g3 rfl) (hJ2 _ () h _ (ji 6 16 rfl rfl rfl))
  ·
   refine oP 10 rfl rfl g3 (oP 10 rfl rfl g3 (oP 10 rfl rfl g3 (oP 10 rfl rfl g3 (oP 10 rfl rfl g3 ?_))))
   exact oV (v_pick_f rfl g3 rfl) (hJ2 _ () h _ (ji 6 16 rfl rfl rfl))


theorem slices_EqualFunc_Lapi_Raw_Lapi_Raw_api_Raw_api_Raw_w : ∀ {a_s1 : (List Raw)} {a_s2 : (List Raw)} {r : Bool}, slices_EqualFunc_Lapi_Raw_Lapi_Raw_api_Raw_api_Raw a_s1 a_s2 = some r → Ctr Tryd.prog 129 [isv (a_s1), isv (a_s2), clov 130 []] [] (fun R H => R = oneOf [isv (r)] ∧ H = []) := by
 intro a_s1 a_s2 r h
 unfold slices_EqualFunc_Lapi_Raw_Lapi_Raw_api_Raw_api_Raw at h
 refine spec_intro Tryd.func129 rfl (by decide +kernel) (by rfl) fun w0 S0 hT => ?_
 refine wsr (oA rfl (rnf (w_seq (wsr ?_))))
 refine oM rfl (oV (v_ln (l := a_s1) rfl (fun _ _ h => h) sl65) (oM rfl (oV (v_ln (l := a_s2) rfl (fun _ _ h => h) sl65) (oV (v_neq rfl rfl) ?_))))
 refine rnf (w_condM h rfl (fun _ h => ?_) (fun _ h => ?_))
 ·
  refine wsr (oA rfl (rnf (w_ret (ret_nxt ?_))))
  refine ret_post (.tmp rfl .nil) .nil ?_
  obtain rfl := Option.some.inj h
  exact ⟨rfl, rfl⟩
 ·
  refine wkf (w_seq (wsr (oM rfl (oV (v_ln (l := a_s1) rfl (fun _ _ h => h) sl65) ?_))))
  refine oM rfl (rnf (w_block (w_lp (ι := Int) (γ := Unit) (fun q1 g1 => [(17, isv (q1))]) (fun q1 g1 => []) h () (mod_cons (j := 17) rfl (fun _ _ h => h) mod_nil) .nil (fun L2 q1 g1 Q15 h hL2 eL2 rL2 => wsr ?_))))
  refine oV (v_lss rfl rfl) (rnf (w_seq (w_condM h rfl (fun _ h => ?_) (fun _ h => ?_))))
  ·
   refine wkf (w_seq (w_block (wsr (oM rfl ?_))))
   refine cal_inv h fun y9 hy9 h => oV (v_ix (l := a_s1) rfl (fun _ _ h => h) rfl sl65 hy9) (oV (v_loadI ty149 rfl) (oT (t_alloc _ ze149 fun b10 => oA rfl ?_)))
   refine oT (t_storeC (y' := (y9 : Raw)) ty149 rfl rfl (fun _ _ h => h) .here rfl (rl_upd (upd_imm 8 .here rfl) (rnf (wsr (oM rfl ?_)))))
   refine oM rfl (cal_inv h fun y11 hy11 h => oV (v_ix (l := a_s2) rfl (fun _ _ h => h) rfl sl65 hy11) (oV (v_loadI ty149 rfl) (oT (t_alloc _ ze149 fun b12 => ?_))))
   refine oT (t_storeC (y' := (y11 : Raw)) ty149 rfl rfl (fun _ _ h => h) .here rfl (rl_upd (upd_imm 9 .here rfl) (rnf (wsr (oM rfl ?_)))))
   refine oV (v_loadI ty149 rfl) (oV (v_loadI ty149 rfl) (cal_inv h fun y13 hy13 h => oT (t_callC rfl (.same rfl (.same rfl .nil)) (value_sameRaw_w hy13) hT .nil (fun R H' hR => ?_))))
   obtain ⟨rfl, rfl⟩ := hR
   refine oV (v_not rfl) (rnf (w_condM h rfl (fun _ h => ?_) (fun _ h => ?_)))
   ·
    refine wsr (oA rfl (rnf (w_ret (ret_block ?_))))
    refine ret_nxt (rL2 _ (ret_block (ret_nxt (ret_post (.tmp rfl .nil) .nil ?_))))
    obtain rfl := Option.some.inj h
    exact ⟨rfl, rfl⟩
   ·
    refine w_skip (fin_block (fin_nxt (w_region (ck_inv h fun q14 h => ?_))))
    exact oV (v_add rfl rfl q14) (oM rfl (rl_nil (hL2 _ () h _ (ji 21 17 rfl rfl rfl))))
  ·
   refine w_exit (exi_nxt (eL2 _ _ (exi_block (fin_nxt ?_))))
   refine wsr (oA rfl (rnf (w_ret (ret_post (.tmp rfl .nil) .nil ?_))))
   obtain rfl := Option.some.inj h
   exact ⟨rfl, rfl⟩


def slices_EqualFunc_Lapi_Value_Lapi_Value_api_Value_api_Value_C (f' : (List Val) → (List Val) → Option (Bool)) : Prop :=
 ∀ {a_s1 : (List Val)} {a_s2 : (List Val)} {r : Bool}, f' a_s1 a_s2 = some r → Ctr Tryd.prog 128 [isv (a_s1), isv (a_s2), clov 116 []] [] (fun R H => R = oneOf [isv (r)] ∧ H = [])
def value_Same_C (f' : Val → Val → Option (Bool)) : Prop :=
 ∀ {a_a : Val} {a_b : Val} {r : Bool}, f' a_a a_b = some r → Ctr Tryd.prog 116 [isv (a_a), isv (a_b)] [] (fun R H => R = oneOf [isv (r)] ∧ H = [])
theorem slices_EqualFunc_Lapi_Value_Lapi_Value_api_Value_api_Value_w0 {slices_EqualFunc_Lapi_Value_Lapi_Value_api_Value_api_Value' : (List Val) → (List Val) → Option (Bool)} {value_Same' : Val → Val → Option (Bool)} (h_slices_EqualFunc_Lapi_Value_Lapi_Value_api_Value_api_Value : slices_EqualFunc_Lapi_Value_Lapi_Value_api_Value_api_Value_C slices_EqualFunc_Lapi_Value_Lapi_Value_api_Value_api_Value') (h_value_Same : value_Same_C value_Same') : ∀ {a_s1 : (List Val)} {a_s2 : (List Val)} {r : Bool}, slices_EqualFunc_Lapi_Value_Lapi_Value_api_Value_api_Value_F slices_EqualFunc_Lapi_Value_Lapi_Value_api_Value_api_Value' value_Same' a_s1 a_s2 = some r → Ctr Tryd.prog 128 [isv (a_s1), isv (a_s2), clov 116 []] [] (fun R H => R = oneOf [isv (r)] ∧ H = []) := by
 intro a_s1 a_s2 r h
 unfold slices_EqualFunc_Lapi_Value_Lapi_Value_api_Value_api_Value_F at h
 refine spec_intro Tryd.func128 rfl (by decide +kernel) (by rfl) fun w0 S0 hT => ?_
 refine wsr (oA rfl (rnf (w_seq (wsr ?_))))
 refine oM rfl (oV (v_ln (l := a_s1) rfl (fun _ _ h => h) sl64) (oM rfl (oV (v_ln (l := a_s2) rfl (fun _ _ h => h) sl64) (oV (v_neq rfl rfl) ?_))))
 refine rnf (w_condM h rfl (fun _ h => ?_) (fun _ h => ?_))
 ·
  refine wsr (oA rfl (rnf (w_ret (ret_nxt ?_))))
  refine ret_post (.tmp rfl .nil) .nil ?_
  obtain rfl := Option.some.inj h
  exact ⟨rfl, rfl⟩
 ·
  refine wkf (w_seq (wsr (oM rfl (oV (v_ln (l := a_s1) rfl (fun _ _ h => h) sl64) ?_))))
  refine oM rfl (rnf (w_block (w_lp (ι := Int) (γ := Unit) (fun q1 g1 => [(17, isv (q1))]) (fun q1 g1 => []) h () (mod_cons (j := 17) rfl (fun _ _ h => h) mod_nil) .nil (fun L2 q1 g1 Q15 h hL2 eL2 rL2 => wsr ?_))))
  refine oV (v_lss rfl rfl) (rnf (w_seq (w_condM h rfl (fun _ h => ?_) (fun _ h => ?_))))
  ·
   refine wkf (w_seq (w_block (wsr (oM rfl ?_))))
   refine cal_inv h fun y9 hy9 h => oV (v_ix (l := a_s1) rfl (fun _ _ h => h) rfl sl64 hy9) (oV (v_loadI ty67 rfl) (oT (t_alloc _ ze67 fun b10 => oA rfl ?_)))
   refine oT (t_storeC (y' := (y9 : Val)) ty67 rfl rfl (fun _ _ h => h) .here rfl (rl_upd (upd_imm 8 .here rfl) (rnf (wsr (oM rfl ?_)))))
   refine oM rfl (cal_inv h fun y11 hy11 h => oV (v_ix (l := a_s2) rfl (fun _ _ h => h) rfl sl64 hy11) (oV (v_loadI ty67 rfl) (oT (t_alloc _ ze67 fun b12 => ?_))))
   refine oT (t_storeC (y' := (y11 : Val)) ty67 rfl rfl (fun _ _ h => h) .here rfl (rl_upd (upd_imm 9 .here rfl) (rnf (wsr (oM rfl ?_)))))
   refine oV (v_loadI ty67 rfl) (oV (v_loadI ty67 rfl) (cal_inv h fun y13 hy13 h => oT (t_callC rfl (.same rfl (.same rfl .nil)) (h_value_Same hy13) hT .nil (fun R H' hR => ?_))))
   obtain ⟨rfl, rfl⟩ := hR
   refine oV (v_not rfl) (rnf (w_condM h rfl (fun _ h => ?_) (fun _ h => ?_)))
   ·
    refine wsr (oA rfl (rnf (w_ret (ret_block ?_))))
    refine ret_nxt (rL2 _ (ret_block (ret_nxt (ret_post (.tmp rfl .nil) .nil ?_))))
    obtain rfl := Option.some.inj h
    exact ⟨rfl, rfl⟩
   ·
    refine w_skip (fin_block (fin_nxt (w_region (ck_inv h fun q14 h => ?_))))
    exact oV (v_add rfl rfl q14) (oM rfl (rl_nil (hL2 _ () h _ (ji 21 17 rfl rfl rfl))))
  ·
   refine w_exit (exi_nxt (eL2 _ _ (exi_block (fin_nxt ?_))))
   refine wsr (oA rfl (rnf (w_ret (ret_post (.tmp rfl .nil) .nil ?_))))
   obtain rfl := Option.some.inj h
   exact ⟨rfl, rfl⟩

theorem value_Same_w0 {slices_EqualFunc_Lapi_Value_Lapi_Value_api_Value_api_Value' : (List Val) → (List Val) → Option (Bool)} {value_Same' : Val → Val → Option (Bool)} (h_slices_EqualFunc_Lapi_Value_Lapi_Value_api_Value_api_Value : slices_EqualFunc_Lapi_Value_Lapi_Value_api_Value_api_Value_C slices_EqualFunc_Lapi_Value_Lapi_Value_api_Value_api_Value') (h_value_Same : value_Same_C value_Same') : ∀ {a_a : Val} {a_b : Val} {r : Bool}, value_Same_F slices_EqualFunc_Lapi_Value_Lapi_Value_api_Value_api_Value' value_Same' a_a a_b = some r → Ctr Tryd.prog 116 [isv (a_a), isv (a_b)] [] (fun R H => R = oneOf [isv (r)] ∧ H = []) := by
 intro a_a a_b r h
 unfold value_Same_F at h
 refine spec_intro Tryd.func116 rfl (by decide +kernel) (by rfl) fun w0 S0 hT => ?_
 refine wsr (oT (t_boxIC (y := a_a) rfl (fun _ _ h => h) (oT (t_boxIC (y := a_b) rfl (fun _ _ h => h) (oA rfl (rnf ?_))))))
 refine wsr (oV (v_fi rfl Val.f0 fd67_0 rfl (z := a_a.kind)) (oV (v_loadI ty3 rfl) (oV (v_fi rfl Val.f0 fd67_0 rfl (z := a_b.kind)) (oV (v_loadI ty3 rfl) ?_))))
 refine oV (v_eql rfl rfl) (oM rfl (rl_j (jb 16) je .nil h 6 rfl (fun q1 g1 h => ?_) (fun J2 h hJ2 => ?_)))
 ·
  refine oM rfl (rl_j (jb 23) je .nil h 6 rfl (fun q4 g4 h => ?_) (fun J5 h hJ5 => ?_))
  ·
   refine oM rfl (rl_j (jb 30) je .nil h 6 rfl (fun q8 g8 h => ?_) (fun J9 h hJ9 => ?_))
   ·
    refine oM rfl (rl_j (jb 37) je .nil h 6 rfl (fun q12 g12 h => ?_) (fun J13 h hJ13 => ?_))
    ·
     refine oM rfl (rl_j (jb 44) je .nil h 6 rfl (fun q15 g15 h => ?_) (fun J16 h hJ16 => ?_))
     ·
      refine oA rfl (rnf (w_ret (ret_post (.tmp rfl .nil) .nil ?_)))
      obtain rfl := Option.some.inj h
      exact ⟨rfl, rfl⟩
     ·
      refine rl_condM (j := 38) h rfl (fun g17 h => ?_) (fun g17 h => ?_)
      ·
       refine oK 38 rfl rfl rfl g17 (v_fi rfl Val.f5 fd67_5 rfl (z := a_a.more)) (oK 38 rfl rfl rfl g17 (v_loadI ty65 rfl) (oK 38 rfl rfl rfl g17 (v_fi rfl Val.f5 fd67_5 rfl (z := a_b.more)) (oK 38 rfl rfl rfl g17 (v_loadI ty65 rfl) (cal_inv h fun y18 hy18 h => ?_))))
       refine op_take rfl rfl (dj := 38) rfl g17 (t_call (slices_EqualFunc_Lapi_Raw_Lapi_Raw_api_Raw_api_Raw_w hy18) hT (.same rfl (.same rfl (.same rfl .nil))) .nil (fun R H' hR => ?_))
       obtain ⟨rfl, rfl⟩ := hR
       exact oV (v_pick_t rfl g17 rfl) (hJ16 _ () h _ (ji 6 44 rfl rfl rfl))
      ·
       refine oP 38 rfl rfl g17 (oP 38 rfl rfl g17 (oP 38 rfl rfl g17 (oP 38 rfl rfl g17 (oP 38 rfl rfl g17 ?_))))
       exact oV (v_pick_f rfl g17 rfl) (hJ16 _ () h _ (ji 6 44 rfl rfl rfl))
    ·
     refine rl_condM (j := 31) h rfl (fun g14 h => ?_) (fun g14 h => ?_)
     ·
      refine oK 31 rfl rfl rfl g14 (v_fi rfl Val.f4 fd67_4 rfl (z := a_a.rule)) (oK 31 rfl rfl rfl g14 (v_loadI ty3 rfl) (oK 31 rfl rfl rfl g14 (v_fi rfl Val.f4 fd67_4 rfl (z := a_b.rule)) (oK 31 rfl rfl rfl g14 (v_loadI ty3 rfl) (oK 31 rfl rfl rfl g14 (v_eql rfl rfl) ?_))))
      exact oV (v_pick_t rfl g14 rfl) (hJ13 _ () h _ (ji 6 37 rfl rfl rfl))
     ·
      refine oP 31 rfl rfl g14 (oP 31 rfl rfl g14 (oP 31 rfl rfl g14 (oP 31 rfl rfl g14 (oP 31 rfl rfl g14 ?_))))
      exact oV (v_pick_f rfl g14 rfl) (hJ13 _ () h _ (ji 6 37 rfl rfl rfl))
   ·
    refine rl_condM (j := 24) h rfl (fun g10 h => ?_) (fun g10 h => ?_)
    ·
     refine oK 24 rfl rfl rfl g10 (v_fi rfl Val.f3 fd67_3 rfl (z := a_a.l)) (oK 24 rfl rfl rfl g10 (v_loadI ty64 rfl) (oK 24 rfl rfl rfl g10 (v_fi rfl Val.f3 fd67_3 rfl (z := a_b.l)) (oK 24 rfl rfl rfl g10 (v_loadI ty64 rfl) (cal_inv h fun y11 hy11 h => ?_))))
     refine op_take rfl rfl (dj := 24) rfl g10 (t_call (h_slices_EqualFunc_Lapi_Value_Lapi_Value_api_Value_api_Value hy11) hT (.same rfl (.same rfl (.same rfl .nil))) .nil (fun R H' hR => ?_))
     obtain ⟨rfl, rfl⟩ := hR
     exact oV (v_pick_t rfl g10 rfl) (hJ9 _ () h _ (ji 6 30 rfl rfl rfl))
    ·
     refine oP 24 rfl rfl g10 (oP 24 rfl rfl g10 (oP 24 rfl rfl g10 (oP 24 rfl rfl g10 (oP 24 rfl rfl g10 ?_))))
     exact oV (v_pick_f rfl g10 rfl) (hJ9 _ () h _ (ji 6 30 rfl rfl rfl))
  ·
   refine rl_condM (j := 17) h rfl (fun g6 h => ?_) (fun g6 h => ?_)
   ·
    refine oK 17 rfl rfl rfl g6 (v_fi rfl Val.f2 fd67_2 rfl (z := a_a.b)) (oK 17 rfl rfl rfl g6 (v_loadI ty63 rfl) (oK 17 rfl rfl rfl g6 (v_fi rfl Val.f2 fd67_2 rfl (z := a_b.b)) (oK 17 rfl rfl rfl g6 (v_loadI ty63 rfl) (cal_inv h fun y7 hy7 h => ?_))))
    refine op_take rfl rfl (dj := 17) rfl g6 (t_call (bytes_Equal_w hy7) hT (.same rfl (.same rfl .nil)) .nil (fun R H' hR => ?_))
    obtain ⟨rfl, rfl⟩ := hR
    exact oV (v_pick_t rfl g6 rfl) (hJ5 _ () h _ (ji 6 23 rfl rfl rfl))
   ·
    refine oP 17 rfl rfl g6 (oP 17 rfl rfl g6 (oP 17 rfl rfl g6 (oP 17 rfl rfl g6 (oP 17 rfl rfl g6 ?_))))
    exact oV (v_pick_f rfl g6 rfl) (hJ5 _ () h _ (ji 6 23 rfl rfl rfl))
 ·
  refine rl_condM (j := 10) h rfl (fun g3 h => ?_) (fun g3 h => ?_)
  ·
   refine oK 10 rfl rfl rfl g3 (v_fi rfl Val.f1 fd67_1 rfl (z := a_a.n)) (oK 10 rfl rfl rfl g3 (v_loadI ty2 rfl) (oK 10 rfl rfl rfl g3 (v_fi rfl Val.f1 fd67_1 rfl (z := a_b.n)) (oK 10 rfl rfl rfl g3 (v_loadI ty2 rfl) (oK 10 rfl rfl rfl g3 (v_eql rfl rfl) ?_))))
   exact oV (v_pick_t rfl g3 rfl) (hJ2 _ () h _ (ji 6 16 rfl rfl rfl))
  ·
   refine oP 10 rfl rfl g3 (oP 10 rfl rfl g3 (oP 10 rfl rfl g3 (oP 10 rfl rfl g3 (oP 10 rfl rfl g3 ?_))))
   exact oV (v_pick_f rfl g3 rfl) (hJ2 _ () h _ (ji 6 16 rfl rfl rfl))

theorem slices_EqualFunc_Lapi_Value_Lapi_Value_api_Value_api_Value_grp_w : ∀ n, slices_EqualFunc_Lapi_Value_Lapi_Value_api_Value_api_Value_C (slices_EqualFunc_Lapi_Value_Lapi_Value_api_Value_api_Value n) ∧ value_Same_C (value_Same n)
 | 0 => ⟨fun h => (by cases h), fun h => (by cases h)⟩
 | n + 1 => by
  obtain ⟨h0, h1⟩ := slices_EqualFunc_Lapi_Value_Lapi_Value_api_Value_api_Value_grp_w n
  exact ⟨slices_EqualFunc_Lapi_Value_Lapi_Value_api_Value_api_Value_w0 h0 h1, value_Same_w0 h0 h1⟩
theorem value_Same_w (n : Nat) : value_Same_C (value_Same n) := (slices_EqualFunc_Lapi_Value_Lapi_Value_api_Value_api_Value_grp_w n).2

def extend_walker_field_C (f' : GXwk → GFld → GFld → Option (Bool × GXwk)) : Prop :=
 ∀ {a_w_ : GXwk} {a_f : GFld} {a_g : GFld} {b_a_w_ : Nat} {r : Bool × GXwk}, f' a_w_ a_f a_g = some r → Ctr Tryd.prog 89 [ptrv b_a_w_ (Fld.id GXwk), isv (a_f), isv (a_g)] [boxE b_a_w_ (a_w_ : GXwk)] (fun R H => R = oneOf [isv (r.1)] ∧ H = [boxE b_a_w_ (r.2)])
def extend_walker_extends_C (f' : GXwk → Int → Int → Option (Bool × GXwk)) : Prop :=
 ∀ {a_w_ : GXwk} {a_i : Int} {a_k : Int} {b_a_w_ : Nat} {r : Bool × GXwk}, f' a_w_ a_i a_k = some r → Ctr Tryd.prog 35 [ptrv b_a_w_ (Fld.id GXwk), isv (a_i), isv (a_k)] [boxE b_a_w_ (a_w_ : GXwk)] (fun R H => R = oneOf [isv (r.1)] ∧ H = [boxE b_a_w_ (r.2)])
def extend_walker_fields_C (f' : GXwk → GTyp → GTyp → Option (Bool × GXwk)) : Prop :=
 ∀ {a_w_ : GXwk} {a_x : GTyp} {a_y : GTyp} {b_a_w_ : Nat} {r : Bool × GXwk}, f' a_w_ a_x a_y = some r → Ctr Tryd.prog 63 [ptrv b_a_w_ (Fld.id GXwk), isv (a_x), isv (a_y)] [boxE b_a_w_ (a_w_ : GXwk)] (fun R H => R = oneOf [isv (r.1)] ∧ H = [boxE b_a_w_ (r.2)])
theorem extend_walker_field_w0 {extend_walker_field' : GXwk → GFld → GFld → Option (Bool × GXwk)} {extend_walker_extends' : GXwk → Int → Int → Option (Bool × GXwk)} {extend_walker_fields' : GXwk → GTyp → GTyp → Option (Bool × GXwk)} (h_extend_walker_field : extend_walker_field_C extend_walker_field') (h_extend_walker_extends : extend_walker_extends_C extend_walker_extends') (h_extend_walker_fields : extend_walker_fields_C extend_walker_fields') : ∀ {a_w_ : GXwk} {a_f : GFld} {a_g : GFld} {b_a_w_ : Nat} {r : Bool × GXwk}, extend_walker_field_F extend_walker_field' extend_walker_extends' extend_walker_fields' a_w_ a_f a_g = some r → Ctr Tryd.prog 89 [ptrv b_a_w_ (Fld.id GXwk), isv (a_f), isv (a_g)] [boxE b_a_w_ (a_w_ : GXwk)] (fun R H => R = oneOf [isv (r.1)] ∧ H = [boxE b_a_w_ (r.2)]) := by
 intro a_w_ a_f a_g b_a_w_ r h
 unfold extend_walker_field_F at h
 refine spec_intro Tryd.func89 rfl (by decide +kernel) (by rfl) fun w0 S0 hT => ?_
 refine wsr (oT (t_boxIC (y := a_f) rfl (fun _ _ h => h) (oT (t_boxIC (y := a_g) rfl (fun _ _ h => h) (oA rfl (rnf ?_))))))
 refine wsr (oV (v_fi rfl GFld.f0 fd69_0 rfl (z := a_f.name)) (oV (v_loadI ty9 rfl) (oV (v_fi rfl GFld.f0 fd69_0 rfl (z := a_g.name)) (oV (v_loadI ty9 rfl) ?_))))
 refine oV (v_eqA eq9 rfl rfl) (oM rfl (rl_j (jb 18) je .nil h 6 rfl (fun q1 g1 h => ?_) (fun J2 h hJ2 => ?_)))
 ·
  refine oM rfl (rl_j (jb 25) je .nil h 6 rfl (fun q4 g4 h => ?_) (fun J5 h hJ5 => ?_))
  ·
   refine oM rfl (rl_j (jb 32) je .nil h 6 rfl (fun q7 g7 h => ?_) (fun J8 h hJ8 => ?_))
   ·
    refine oM rfl (rl_j (jb 39) je .nil h 6 rfl (fun q11 g11 h => ?_) (fun J12 h hJ12 => ?_))
    ·
     refine oM rfl (rl_j (ι := Bool × GXwk) (γ := Unit) (fun q14 g14 => [(47, isv (q14.1))]) (fun q14 g14 => [boxE b_a_w_ (q14.2 : GXwk)]) (.cons .here .nil) h 7 rfl (fun q14 g14 h => ?_) (fun J15 h hJ15 => ?_))
     ·
      refine oA rfl (rnf (w_ret (ret_post (.tmp rfl .nil) (.cons .here .nil) ?_)))
      obtain rfl := Option.some.inj h
      exact ⟨rfl, rfl⟩
     ·
      refine rl_condM (j := 40) h rfl (fun g16 h => ?_) (fun g16 h => ?_)
      ·
       refine oK 40 rfl rfl rfl g16 (v_move rfl) (oK 40 rfl rfl rfl g16 (v_fi rfl GFld.f1 fd69_1 rfl (z := a_f.ty)) (oK 40 rfl rfl rfl g16 (v_loadI ty3 rfl) (oK 40 rfl rfl rfl g16 (v_fi rfl GFld.f1 fd69_1 rfl (z := a_g.ty)) (oK 40 rfl rfl rfl g16 (v_loadI ty3 rfl) ?_))))
       refine cal_inv h fun y17 hy17 h => op_take rfl rfl (dj := 40) rfl g16 (t_call (h_extend_walker_extends hy17) hT (.same rfl (.same rfl (.same rfl .nil))) (.cons .here .nil) (fun R H' hR => ?_))
       obtain ⟨rfl, rfl⟩ := hR
       exact oV (v_pick_t rfl g16 rfl) (hJ15 _ () h _ (join_imp 7 rfl rfl (mod_cons (j := 47) rfl (fun _ _ h => h) mod_nil) (.cons .here .nil)))
      ·
       refine oP 40 rfl rfl g16 (oP 40 rfl rfl g16 (oP 40 rfl rfl g16 (oP 40 rfl rfl g16 (oP 40 rfl rfl g16 ?_))))
       exact oP 40 rfl rfl g16 (oV (v_pick_f rfl g16 rfl) (hJ15 _ () h _ (join_imp 7 rfl rfl (mod_cons (j := 47) rfl (fun _ _ h => h) mod_nil) (.cons .here .nil))))
    ·
     refine rl_condM (j := 33) h rfl (fun g13 h => ?_) (fun g13 h => ?_)
     ·
      refine oK 33 rfl rfl rfl g13 (v_fi rfl GFld.f5 fd69_5 rfl (z := a_f.group)) (oK 33 rfl rfl rfl g13 (v_loadI ty3 rfl) (oK 33 rfl rfl rfl g13 (v_fi rfl GFld.f5 fd69_5 rfl (z := a_g.group)) (oK 33 rfl rfl rfl g13 (v_loadI ty3 rfl) (oK 33 rfl rfl rfl g13 (v_eql rfl rfl) ?_))))
      exact oV (v_pick_t rfl g13 rfl) (hJ12 _ () h _ (join_imp 6 rfl rfl (mod_cons (j := 39) rfl (fun _ _ h => h) mod_nil) (.cons .here .nil)))
     ·
      refine oP 33 rfl rfl g13 (oP 33 rfl rfl g13 (oP 33 rfl rfl g13 (oP 33 rfl rfl g13 (oP 33 rfl rfl g13 ?_))))
      exact oV (v_pick_f rfl g13 rfl) (hJ12 _ () h _ (join_imp 6 rfl rfl (mod_cons (j := 39) rfl (fun _ _ h => h) mod_nil) (.cons .here .nil)))
   ·
    refine rl_condM (j := 26) h rfl (fun g9 h => ?_) (fun g9 h => ?_)
    ·
     refine oK 26 rfl rfl rfl g9 (v_fi rfl GFld.f4 fd69_4 rfl (z := a_f.dflt)) (oK 26 rfl rfl rfl g9 (v_loadI ty67 rfl) (oK 26 rfl rfl rfl g9 (v_fi rfl GFld.f4 fd69_4 rfl (z := a_g.dflt)) (oK 26 rfl rfl rfl g9 (v_loadI ty67 rfl) (cal_inv h fun y10 hy10 h => ?_))))
     refine op_take rfl rfl (dj := 26) rfl g9 (t_call (value_Same_w fuel hy10) hT (.same rfl (.same rfl .nil)) .nil (fun R H' hR => ?_))
     obtain ⟨rfl, rfl⟩ := hR
     exact oV (v_pick_t rfl g9 rfl) (hJ8 _ () h _ (join_imp 6 rfl rfl (mod_cons (j := 32) rfl (fun _ _ h => h) mod_nil) (.cons .here .nil)))
    ·
     refine oP 26 rfl rfl g9 (oP 26 rfl rfl g9 (oP 26 rfl rfl g9 (oP 26 rfl rfl g9 (oP 26 rfl rfl g9 ?_))))
     exact oV (v_pick_f rfl g9 rfl) (hJ8 _ () h _ (join_imp 6 rfl rfl (mod_cons (j := 32) rfl (fun _ _ h => h) mod_nil) (.cons .here .nil)))
  ·
   refine rl_condM (j := 19) h rfl (fun g6 h => ?_) (fun g6 h => ?_)
   ·
    refine oK 19 rfl rfl rfl g6 (v_fi rfl GFld.f3 fd69_3 rfl (z := a_f.has)) (oK 19 rfl rfl rfl g6 (v_loadI ty4 rfl) (oK 19 rfl rfl rfl g6 (v_fi rfl GFld.f3 fd69_3 rfl (z := a_g.has)) (oK 19 rfl rfl rfl g6 (v_loadI ty4 rfl) (oK 19 rfl rfl rfl g6 (v_eqA eq4 rfl rfl) ?_))))
    exact oV (v_pick_t rfl g6 rfl) (hJ5 _ () h _ (join_imp 6 rfl rfl (mod_cons (j := 25) rfl (fun _ _ h => h) mod_nil) (.cons .here .nil)))
   ·
    refine oP 19 rfl rfl g6 (oP 19 rfl rfl g6 (oP 19 rfl rfl g6 (oP 19 rfl rfl g6 (oP 19 rfl rfl g6 ?_))))
    exact oV (v_pick_f rfl g6 rfl) (hJ5 _ () h _ (join_imp 6 rfl rfl (mod_cons (j := 25) rfl (fun _ _ h => h) mod_nil) (.cons .here .nil)))
 ·
  refine rl_condM (j := 12) h rfl (fun g3 h => ?_) (fun g3 h => ?_)
  ·
   refine oK 12 rfl rfl rfl g3 (v_fi rfl GFld.f2 fd69_2 rfl (z := a_f.optional)) (oK 12 rfl rfl rfl g3 (v_loadI ty4 rfl) (oK 12 rfl rfl rfl g3 (v_fi rfl GFld.f2 fd69_2 rfl (z := a_g.optional)) (oK 12 rfl rfl rfl g3 (v_loadI ty4 rfl) (oK 12 rfl rfl rfl g3 (v_eqA eq4 rfl rfl) ?_))))
   exact oV (v_pick_t rfl g3 rfl) (hJ2 _ () h _ (join_imp 6 rfl rfl (mod_cons (j := 18) rfl (fun _ _ h => h) mod_nil) (.cons .here .nil)))
  ·
   refine oP 12 rfl rfl g3 (oP 12 rfl rfl g3 (oP 12 rfl rfl g3 (oP 12 rfl rfl g3 (oP 12 rfl rfl g3 ?_))))
   exact oV (v_pick_f rfl g3 rfl) (hJ2 _ () h _ (join_imp 6 rfl rfl (mod_cons (j := 18) rfl (fun _ _ h => h) mod_nil) (.cons .here .nil)))

theorem extend_walker_extends_w0 {extend_walker_field' : GXwk → GFld → GFld → Option (Bool × GXwk)} {extend_walker_extends' : GXwk → Int → Int → Option (Bool × GXwk)} {extend_walker_fields' : GXwk → GTyp → GTyp → Option (Bool × GXwk)} (h_extend_walker_field : extend_walker_field_C extend_walker_field') (h_extend_walker_extends : extend_walker_extends_C extend_walker_extends') (h_extend_walker_fields : extend_walker_fields_C extend_walker_fields') : ∀ {a_w_ : GXwk} {a_i : Int} {a_k : Int} {b_a_w_ : Nat} {r : Bool × GXwk}, extend_walker_extends_F extend_walker_field' extend_walker_extends' extend_walker_fields' a_w_ a_i a_k = some r → Ctr Tryd.prog 35 [ptrv b_a_w_ (Fld.id GXwk), isv (a_i), isv (a_k)] [boxE b_a_w_ (a_w_ : GXwk)] (fun R H => R = oneOf [isv (r.1)] ∧ H = [boxE b_a_w_ (r.2)]) := by
 intro a_w_ a_i a_k b_a_w_ r h
 unfold extend_walker_extends_F at h
 refine spec_intro Tryd.func35 rfl (by decide +kernel) (by rfl) fun w0 S0 hT => ?_
 refine wsr (oA rfl (rnf (wsr (oM rfl ?_))))
 refine oV (v_nilCheck rfl) (oV (v_fa rfl GXwk.f0 fd84_0) (oT (t_loadC (R := isv (a_w_.sides)) ty82 rfl .here (fun _ _ h => h) (oM rfl (oM rfl ?_)))))
 refine cal_inv h fun y1 hy1 h => oT (t_call (extend_sides_types_w hy1) hT (.same rfl (.same rfl (.same rfl .nil))) .nil (fun R H' hR => ?_))
 obtain ⟨rfl, rfl⟩ := hR
 refine oM rfl (oV (v_extract rfl rfl) (oV (v_extract rfl rfl) (oV (v_extract rfl rfl) (oT (t_alloc _ ze58 fun b2 => ?_)))))
 refine oT (t_alloc _ ze58 fun b3 => oT (t_storeC (y' := (y1.1 : GTyp)) ty58 rfl rfl (fun _ _ h => h) (.there .here) rfl (rl_upd (upd_imm 7 .here rfl) (oT (t_storeC (y' := (y1.2.1 : GTyp)) ty58 rfl rfl (fun _ _ h => h) .here rfl (rl_upd (upd_imm 8 .here rfl) ?_))))))
 refine oA rfl (rnf (w_seq (wsr (oM rfl ?_))))
 refine oV (v_nilCheck rfl) (oV (v_fa rfl GXwk.f1 fd84_1) (oT (t_loadC (R := isv (a_w_.left)) ty3 rfl .here (fun _ _ h => h) (ck_inv h fun q4 h => oV (v_sub rfl rfl q4) ?_))))
 refine oV (v_nilCheck rfl) (oV (v_fa rfl GXwk.f1 fd84_1) (oT (t_storeC (y' := ({ a_w_ with left := (a_w_.left - (1 : Int)) } : GXwk)) ty3 rfl rfl (fun _ _ h => h) .here rfl (rnf (wsr ?_)))))
 refine oM rfl (oV (v_not rfl) (oM rfl (rl_j (jb 36) je .nil h 6 rfl (fun q5 g5 h => ?_) (fun J6 h hJ6 => ?_))))
 ·
  refine oM rfl (rl_j (jb 43) je .nil h 6 rfl (fun q8 g8 h => ?_) (fun J9 h hJ9 => ?_))
  ·
   refine oM rfl (rl_j (jb 51) je .nil h 7 rfl (fun q11 g11 h => ?_) (fun J12 h hJ12 => ?_))
   ·
    refine oM rfl (rl_j (jb 58) je .nil h 6 rfl (fun q15 g15 h => ?_) (fun J16 h hJ16 => ?_))
    ·
     refine oM rfl (rl_j (jb 65) je .nil h 6 rfl (fun q18 g18 h => ?_) (fun J19 h hJ19 => ?_))
     ·
      refine rnf (w_condM h rfl (fun _ h => ?_) (fun _ h => ?_))
      ·
       refine wsr (oA rfl (rnf (w_ret (ret_nxt ?_))))
       refine ret_post (.tmp rfl .nil) (.cons .here .nil) ?_
       obtain rfl := Option.some.inj h
       exact ⟨rfl, rfl⟩
      ·
       refine wkf (w_seq (wsr (oV (v_fi rfl GTyp.f0 fd58_0 rfl (z := y1.1.kind)) (oV (v_loadI ty3 rfl) ?_))))
       refine rnf (w_block (wsr (oV (v_eql rfl rfl) (oA rfl ?_))))
       refine rnf (w_condM h rfl (fun _ h => ?_) (fun _ h => ?_))
       ·
        refine wsr (oM rfl (oV (v_fi rfl GTyp.f7 fd58_7 rfl (z := y1.1.of)) (oV (v_loadI ty3 rfl) (oV (v_fi rfl GTyp.f7 fd58_7 rfl (z := y1.2.1.of)) ?_))))
        refine oV (v_loadI ty3 rfl) (cal_inv h fun y21 hy21 h => oT (t_call (h_extend_walker_extends hy21) hT (.same rfl (.same rfl (.same rfl .nil))) (.cons .here .nil) (fun R H' hR => ?_)))
        obtain ⟨rfl, rfl⟩ := hR
        refine oA rfl (rnf (w_ret (ret_block (ret_nxt ?_))))
        refine ret_post (.tmp rfl .nil) (.cons .here .nil) ?_
        obtain rfl := Option.some.inj h
        exact ⟨rfl, rfl⟩
       ·
        refine wsr (oV (v_eql rfl rfl) (oA rfl (rnf (w_condM h rfl (fun _ h => ?_) (fun _ h => ?_)))))
        ·
         refine wsr (oV (v_loadI ty58 rfl) (oV (v_loadI ty58 rfl) (cal_inv h fun y22 hy22 h => oT (t_call (extend_items_w hy22) hT (.same rfl (.same rfl .nil)) .nil (fun R H' hR => ?_)))))
         obtain ⟨rfl, rfl⟩ := hR
         refine oA rfl (rnf (w_ret (ret_block (ret_nxt ?_))))
         refine ret_post (.tmp rfl .nil) (.cons .here .nil) ?_
         obtain rfl := Option.some.inj h
         exact ⟨rfl, rfl⟩
        ·
         refine w_seq (wsr (oV (v_eql rfl rfl) (oA rfl (rnf ?_))))
         refine w_J (jb 81) je .nil h (fun q23 g23 h => ?_) (fun J24 h hJ24 => ?_)
         ·
          refine w_condM h rfl (fun _ h => ?_) (fun _ h => ?_)
          ·
           refine wsr (oM rfl (oV (v_loadI ty58 rfl) (oV (v_loadI ty58 rfl) (cal_inv h fun y25 hy25 h => ?_))))
           refine oT (t_call (h_extend_walker_fields hy25) hT (.same rfl (.same rfl (.same rfl .nil))) (.cons .here .nil) (fun R H' hR => ?_))
           obtain ⟨rfl, rfl⟩ := hR
           refine oA rfl (rnf (w_ret (ret_block (ret_nxt ?_))))
           refine ret_post (.tmp rfl .nil) (.cons .here .nil) ?_
           obtain rfl := Option.some.inj h
           exact ⟨rfl, rfl⟩
          ·
           refine w_skip (fin_block (fin_nxt (wsr (oA rfl ?_))))
           refine rnf (w_ret (ret_post (.tmp rfl .nil) (.cons .here .nil) ?_))
           obtain rfl := Option.some.inj h
           exact ⟨rfl, rfl⟩
         ·
          refine w_condM h rfl (fun _ h => ?_) (fun _ h => ?_)
          ·
           exact w_skip (hJ24 _ () h _ (join_imp 0 rfl rfl (mod_cons (j := 81) rfl (fun _ _ h => h) mod_nil) (.cons .here .nil)))
          ·
           refine wsr (oV (v_eql rfl rfl) (oA rfl (rnf (w_condM h rfl (fun _ h => ?_) (fun _ h => ?_)))))
           ·
            exact w_skip (hJ24 _ () h _ (join_imp 2 rfl rfl (mod_cons (j := 81) rfl (fun _ _ h => h) mod_nil) (.cons .here .nil)))
           ·
            exact w_region (oV (v_eql rfl rfl) (oA rfl (rl_nil (hJ24 _ () h _ (join_imp 4 rfl rfl (mod_cons (j := 81) rfl (fun _ _ h => h) mod_nil) (.cons .here .nil))))))
     ·
      refine rl_condM (j := 59) h rfl (fun g20 h => ?_) (fun g20 h => ?_)
      ·
       refine oP 59 rfl rfl g20 (oP 59 rfl rfl g20 (oP 59 rfl rfl g20 (oP 59 rfl rfl g20 (oP 59 rfl rfl g20 ?_))))
       exact oV (v_pick_t rfl g20 rfl) (hJ19 _ () h _ (join_imp 6 rfl rfl (mod_cons (j := 65) rfl (fun _ _ h => h) mod_nil) (.cons .here .nil)))
      ·
       refine oK 59 rfl rfl rfl g20 (v_fi rfl GTyp.f6 fd58_6 rfl (z := y1.1.more)) (oK 59 rfl rfl rfl g20 (v_loadI ty4 rfl) (oK 59 rfl rfl rfl g20 (v_fi rfl GTyp.f6 fd58_6 rfl (z := y1.2.1.more)) (oK 59 rfl rfl rfl g20 (v_loadI ty4 rfl) (oK 59 rfl rfl rfl g20 (v_neA eq4 rfl rfl) ?_))))
       exact oV (v_pick_f rfl g20 rfl) (hJ19 _ () h _ (join_imp 6 rfl rfl (mod_cons (j := 65) rfl (fun _ _ h => h) mod_nil) (.cons .here .nil)))
    ·
     refine rl_condM (j := 52) h rfl (fun g17 h => ?_) (fun g17 h => ?_)
     ·
      refine oP 52 rfl rfl g17 (oP 52 rfl rfl g17 (oP 52 rfl rfl g17 (oP 52 rfl rfl g17 (oP 52 rfl rfl g17 ?_))))
      exact oV (v_pick_t rfl g17 rfl) (hJ16 _ () h _ (join_imp 6 rfl rfl (mod_cons (j := 58) rfl (fun _ _ h => h) mod_nil) (.cons .here .nil)))
     ·
      refine oK 52 rfl rfl rfl g17 (v_fi rfl GTyp.f2 fd58_2 rfl (z := y1.1.con)) (oK 52 rfl rfl rfl g17 (v_loadI ty54 rfl) (oK 52 rfl rfl rfl g17 (v_fi rfl GTyp.f2 fd58_2 rfl (z := y1.2.1.con)) (oK 52 rfl rfl rfl g17 (v_loadI ty54 rfl) (oK 52 rfl rfl rfl g17 (v_neA eq54 rfl rfl) ?_))))
      exact oV (v_pick_f rfl g17 rfl) (hJ16 _ () h _ (join_imp 6 rfl rfl (mod_cons (j := 58) rfl (fun _ _ h => h) mod_nil) (.cons .here .nil)))
   ·
    refine rl_condM (j := 44) h rfl (fun g13 h => ?_) (fun g13 h => ?_)
    ·
     refine oP 44 rfl rfl g13 (oP 44 rfl rfl g13 (oP 44 rfl rfl g13 (oP 44 rfl rfl g13 (oP 44 rfl rfl g13 ?_))))
     exact oP 44 rfl rfl g13 (oV (v_pick_t rfl g13 rfl) (hJ12 _ () h _ (join_imp 7 rfl rfl (mod_cons (j := 51) rfl (fun _ _ h => h) mod_nil) (.cons .here .nil))))
    ·
     refine oK 44 rfl rfl rfl g13 (v_fi rfl GTyp.f1 fd58_1 rfl (z := y1.1.tags)) (oK 44 rfl rfl rfl g13 (v_loadI ty52 rfl) (oK 44 rfl rfl rfl g13 (v_fi rfl GTyp.f1 fd58_1 rfl (z := y1.2.1.tags)) (oK 44 rfl rfl rfl g13 (v_loadI ty52 rfl) (cal_inv h fun y14 hy14 h => ?_))))
     refine op_take rfl rfl (dj := 44) rfl g13 (t_call (slices_Equal_Lapi_Tag_api_Tag_w hy14) hT (.same rfl (.same rfl .nil)) .nil (fun R H' hR => ?_))
     obtain ⟨rfl, rfl⟩ := hR
     exact oK 44 rfl rfl rfl g13 (v_not rfl) (oV (v_pick_f rfl g13 rfl) (hJ12 _ () h _ (join_imp 7 rfl rfl (mod_cons (j := 51) rfl (fun _ _ h => h) mod_nil) (.cons .here .nil))))
  ·
   refine rl_condM (j := 37) h rfl (fun g10 h => ?_) (fun g10 h => ?_)
   ·
    refine oP 37 rfl rfl g10 (oP 37 rfl rfl g10 (oP 37 rfl rfl g10 (oP 37 rfl rfl g10 (oP 37 rfl rfl g10 ?_))))
    exact oV (v_pick_t rfl g10 rfl) (hJ9 _ () h _ (join_imp 6 rfl rfl (mod_cons (j := 43) rfl (fun _ _ h => h) mod_nil) (.cons .here .nil)))
   ·
    refine oK 37 rfl rfl rfl g10 (v_fi rfl GTyp.f0 fd58_0 rfl (z := y1.1.kind)) (oK 37 rfl rfl rfl g10 (v_loadI ty3 rfl) (oK 37 rfl rfl rfl g10 (v_fi rfl GTyp.f0 fd58_0 rfl (z := y1.2.1.kind)) (oK 37 rfl rfl rfl g10 (v_loadI ty3 rfl) (oK 37 rfl rfl rfl g10 (v_neq rfl rfl) ?_))))
    exact oV (v_pick_f rfl g10 rfl) (hJ9 _ () h _ (join_imp 6 rfl rfl (mod_cons (j := 43) rfl (fun _ _ h => h) mod_nil) (.cons .here .nil)))
 ·
  refine rl_condM (j := 30) h rfl (fun g7 h => ?_) (fun g7 h => ?_)
  ·
   refine oP 30 rfl rfl g7 (oP 30 rfl rfl g7 (oP 30 rfl rfl g7 (oP 30 rfl rfl g7 (oP 30 rfl rfl g7 ?_))))
   exact oV (v_pick_t rfl g7 rfl) (hJ6 _ () h _ (join_imp 6 rfl rfl (mod_cons (j := 36) rfl (fun _ _ h => h) mod_nil) (.cons .here .nil)))
  ·
   refine oK 30 rfl rfl rfl g7 (v_move rfl) (oK 30 rfl rfl rfl g7 (v_nilCheck rfl) (oK 30 rfl rfl rfl g7 (v_fa rfl GXwk.f1 fd84_1) (op_take rfl rfl (dj := 30) rfl g7 (t_loadC (R := isv ((a_w_.left - (1 : Int)))) ty3 rfl .here (fun _ _ h => h) (oK 30 rfl rfl rfl g7 (v_lss rfl rfl) ?_)))))
   exact oV (v_pick_f rfl g7 rfl) (hJ6 _ () h _ (join_imp 6 rfl rfl (mod_cons (j := 36) rfl (fun _ _ h => h) mod_nil) (.cons .here .nil)))

theorem extend_walker_fields_w0 {extend_walker_field' : GXwk → GFld → GFld → Option (Bool × GXwk)} {extend_walker_extends' : GXwk → Int → Int → Option (Bool × GXwk)} {extend_walker_fields' : GXwk → GTyp → GTyp → Option (Bool × GXwk)} (h_extend_walker_field : extend_walker_field_C extend_walker_field') (h_extend_walker_extends : extend_walker_extends_C extend_walker_extends') (h_extend_walker_fields : extend_walker_fields_C extend_walker_fields') : ∀ {a_w_ : GXwk} {a_x : GTyp} {a_y : GTyp} {b_a_w_ : Nat} {r : Bool × GXwk}, extend_walker_fields_F extend_walker_field' extend_walker_extends' extend_walker_fields' a_w_ a_x a_y = some r → Ctr Tryd.prog 63 [ptrv b_a_w_ (Fld.id GXwk), isv (a_x), isv (a_y)] [boxE b_a_w_ (a_w_ : GXwk)] (fun R H => R = oneOf [isv (r.1)] ∧ H = [boxE b_a_w_ (r.2)]) := by
 intro a_w_ a_x a_y b_a_w_ r h
 unfold extend_walker_fields_F at h
 refine spec_intro Tryd.func63 rfl (by decide +kernel) (by rfl) fun w0 S0 hT => ?_
 refine wsr (oT (t_boxIC (y := a_x) rfl (fun _ _ h => h) (oT (t_boxIC (y := a_y) rfl (fun _ _ h => h) (oA rfl (rnf ?_))))))
 refine wsr (oV (v_fi rfl GTyp.f4 fd58_4 rfl (z := a_x.fields)) (oV (v_loadI ty56 rfl) (oV (v_ln (l := a_x.fields) rfl (fun _ _ h => h) sl56) (oA rfl ?_))))
 refine rnf (w_seq (wsr (oV (v_fi rfl GTyp.f5 fd58_5 rfl (z := a_x.root)) (oV (v_loadI ty3 rfl) ?_))))
 refine oV (v_fi rfl GTyp.f5 fd58_5 rfl (z := a_y.root)) (oV (v_loadI ty3 rfl) (oV (v_neq rfl rfl) (oM rfl (rl_j (jb 25) je .nil h 6 rfl (fun q1 g1 h => ?_) (fun J2 h hJ2 => ?_)))))
 ·
  refine oM rfl (rl_j (jb 37) je .nil h 11 rfl (fun q4 g4 h => ?_) (fun J5 h hJ5 => ?_))
  ·
   refine rnf (w_condM h rfl (fun _ h => ?_) (fun _ h => ?_))
   ·
    refine wsr (oA rfl (rnf (w_ret (ret_nxt ?_))))
    refine ret_post (.tmp rfl .nil) (.cons .here .nil) ?_
    obtain rfl := Option.some.inj h
    exact ⟨rfl, rfl⟩
   ·
    refine wkf (w_seq (wsr (oV (v_fi rfl GTyp.f4 fd58_4 rfl (z := a_x.fields)) (oV (v_loadI ty56 rfl) ?_))))
    refine oV (v_ln (l := a_x.fields) rfl (fun _ _ h => h) sl56) (oM rfl (rnf (w_block (w_lp (ι := Int × GXwk) (γ := Unit) (fun q10 g10 => [(41, isv (q10.1))]) (fun q10 g10 => [boxE b_a_w_ (q10.2 : GXwk)]) h () (mod_cons (j := 41) rfl (fun _ _ h => h) mod_nil) (.cons .here .nil) (fun L11 q10 g10 Q40 h hL11 eL11 rL11 => ?_)))))
    refine wsr (oV (v_lss rfl rfl) (rnf (w_seq (w_condM h rfl (fun _ h => ?_) (fun _ h => ?_)))))
    ·
     refine wkf (w_seq (w_block (wsr (oM rfl ?_))))
     refine cal_inv h fun y26 hy26 h => oV (v_ix (l := a_x.fields) rfl (fun _ _ h => h) rfl sl56 hy26) (oV (v_loadI ty69 rfl) (oT (t_alloc _ ze69 fun b27 => oA rfl ?_)))
     refine oT (t_storeC (y' := (y26 : GFld)) ty69 rfl rfl (fun _ _ h => h) .here rfl (rl_upd (upd_imm 9 .here rfl) (rnf (w_seq (w_regionD (.v 0 (.v 1 (.v 2 (.v 3 (.v 4 (.v 5 (.v 6 (.t 7 (.v 8 .nil))))))))) moOrd (by kernel_rfl) ?_)))))
     refine rvm rfl rfl (rd_v rfl (v_loadI ty69 rfl) (rd_v rfl (v_fi rfl GTyp.f4 fd58_4 rfl (z := a_y.fields)) (rd_v rfl (v_loadI ty56 rfl) (rvm rfl rfl ?_))))
     refine cal_inv h fun y28 hy28 h => rd_v rfl (v_ix (l := a_y.fields) rfl (fun _ _ h => h) rfl sl56 hy28) (rd_v rfl (v_loadI ty69 rfl) (cal_inv h fun y29 hy29 h => rd_t rfl rfl (t_call (h_extend_walker_field hy29) hT (.same rfl (.same rfl (.same rfl .nil))) (.cons .here .nil) (fun R H' hR => ?_))))
     obtain ⟨rfl, rfl⟩ := hR
     refine rd_v rfl (v_not rfl) (rd_nil (fin_nxt (w_condM h rfl (fun _ h => ?_) (fun _ h => ?_))))
     ·
      refine wsr (oA rfl (rnf (w_ret (ret_block ?_))))
      refine ret_nxt (rL11 _ (ret_block (ret_nxt (ret_post (.tmp rfl .nil) (.cons .here .nil) ?_))))
      obtain rfl := Option.some.inj h
      exact ⟨rfl, rfl⟩
     ·
      refine w_skip (fin_block (fin_nxt (w_region (ck_inv h fun q30 h => ?_))))
      exact oV (v_add rfl rfl q30) (oM rfl (rl_nil (hL11 _ () h _ (join_imp 19 rfl rfl (mod_cons (j := 41) rfl (fun _ _ h => h) mod_nil) (.cons .here .nil)))))
    ·
     refine w_exit (exi_nxt (eL11 _ _ (exi_block (fin_nxt ?_))))
     refine w_seq (wsr (oM rfl (oV (v_eql rfl rfl) (oM rfl ?_))))
     refine rl_j (jb 64) je .nil h 6 rfl (fun q31 g31 h => ?_) (fun J32 h hJ32 => ?_)
     ·
      refine rnf (w_condM h rfl (fun _ h => ?_) (fun _ h => ?_))
      ·
       refine wsr (oA rfl (rnf (w_ret (ret_nxt ?_))))
       refine ret_post (.tmp rfl .nil) (.cons .here .nil) ?_
       obtain rfl := Option.some.inj h
       exact ⟨rfl, rfl⟩
      ·
       refine wkf (wsr (oV (v_fi rfl GTyp.f4 fd58_4 rfl (z := a_y.fields)) (oV (v_loadI ty56 rfl) (oM rfl ?_))))
       refine cal_inv h fun y34 hy34 h => oV (v_ix (l := a_y.fields) rfl (fun _ _ h => h) rfl sl56 hy34) (oV (v_fi rfl GFld.f5 fd69_5 rfl (z := y34.group)) (oV (v_loadI ty3 rfl) (oA rfl ?_)))
       refine rnf (wsr (oM rfl (oV (v_eql rfl rfl) (oM rfl ?_))))
       refine rl_j (jb 83) je .nil h 10 rfl (fun q35 g35 h => ?_) (fun J36 h hJ36 => ?_)
       ·
        refine oA rfl (rnf (w_ret (ret_post (.tmp rfl .nil) (.cons .here .nil) ?_)))
        obtain rfl := Option.some.inj h
        exact ⟨rfl, rfl⟩
       ·
        refine rl_condM (j := 73) h rfl (fun g37 h => ?_) (fun g37 h => ?_)
        ·
         refine oP 73 rfl rfl g37 (oP 73 rfl rfl g37 (oP 73 rfl rfl g37 (oP 73 rfl rfl g37 (oP 73 rfl rfl g37 ?_))))
         refine oP 73 rfl rfl g37 (oP 73 rfl rfl g37 (oP 73 rfl rfl g37 (oP 73 rfl rfl g37 (oV (v_pick_t rfl g37 rfl) ?_))))
         exact hJ36 _ () h _ (join_imp 10 rfl rfl (mod_cons (j := 83) rfl (fun _ _ h => h) mod_nil) (.cons .here .nil))
        ·
         refine oK 73 rfl rfl rfl g37 (v_move rfl) (oK 73 rfl rfl rfl g37 (v_fi rfl GTyp.f4 fd58_4 rfl (z := a_x.fields)) (oK 73 rfl rfl rfl g37 (v_loadI ty56 rfl) (oK 73 rfl rfl rfl g37 (v_move rfl) (ck_inv h fun q38 h => ?_))))
         refine oK 73 rfl rfl rfl g37 (v_sub rfl rfl q38) (cal_inv h fun y39 hy39 h => oK 73 rfl rfl rfl g37 (v_ix (l := a_x.fields) rfl (fun _ _ h => h) rfl sl56 hy39) (oK 73 rfl rfl rfl g37 (v_fi rfl GFld.f5 fd69_5 rfl (z := y39.group)) (oK 73 rfl rfl rfl g37 (v_loadI ty3 rfl) ?_)))
         exact oK 73 rfl rfl rfl g37 (v_neq rfl rfl) (oV (v_pick_f rfl g37 rfl) (hJ36 _ () h _ (join_imp 10 rfl rfl (mod_cons (j := 83) rfl (fun _ _ h => h) mod_nil) (.cons .here .nil))))
     ·
      refine rl_condM (j := 58) h rfl (fun g33 h => ?_) (fun g33 h => ?_)
      ·
       refine oP 58 rfl rfl g33 (oP 58 rfl rfl g33 (oP 58 rfl rfl g33 (oP 58 rfl rfl g33 (oP 58 rfl rfl g33 ?_))))
       exact oV (v_pick_t rfl g33 rfl) (hJ32 _ () h _ (join_imp 6 rfl rfl (mod_cons (j := 64) rfl (fun _ _ h => h) mod_nil) (.cons .here .nil)))
      ·
       refine oK 58 rfl rfl rfl g33 (v_fi rfl GTyp.f4 fd58_4 rfl (z := a_y.fields)) (oK 58 rfl rfl rfl g33 (v_loadI ty56 rfl) (oK 58 rfl rfl rfl g33 (v_ln (l := a_y.fields) rfl (fun _ _ h => h) sl56) (oK 58 rfl rfl rfl g33 (v_move rfl) (oK 58 rfl rfl rfl g33 (v_eql rfl rfl) ?_))))
       exact oV (v_pick_f rfl g33 rfl) (hJ32 _ () h _ (join_imp 6 rfl rfl (mod_cons (j := 64) rfl (fun _ _ h => h) mod_nil) (.cons .here .nil)))
  ·
   refine rl_condM (j := 26) h rfl (fun g6 h => ?_) (fun g6 h => ?_)
   ·
    refine oP 26 rfl rfl g6 (oP 26 rfl rfl g6 (oP 26 rfl rfl g6 (oP 26 rfl rfl g6 (op_passU rfl (dj := 30) rfl ?_))))
    refine op_passU rfl (dj := 30) rfl (op_passU rfl (dj := 30) rfl (op_passU rfl (dj := 30) rfl (op_passU rfl (dj := 30) rfl (oP 26 rfl rfl g6 ?_))))
    exact oV (v_pick_t rfl g6 rfl) (hJ5 _ () h _ (join_imp 11 rfl rfl (mod_cons (j := 37) rfl (fun _ _ h => h) mod_nil) (.cons .here .nil)))
   ·
    refine oK 26 rfl rfl rfl g6 (v_fi rfl GTyp.f6 fd58_6 rfl (z := a_x.more)) (oK 26 rfl rfl rfl g6 (v_loadI ty4 rfl) (oK 26 rfl rfl rfl g6 (v_not rfl) (oK 26 rfl rfl rfl g6 (v_move rfl) (rl_j (jb 36) je .nil h 6 rfl (fun q7 g7 h => ?_) (fun J8 h hJ8 => ?_)))))
    ·
     exact oV (v_pick_f rfl g6 rfl) (hJ5 _ () h _ (join_imp 6 rfl rfl (mod_cons (j := 37) rfl (fun _ _ h => h) mod_nil) (.cons .here .nil)))
    ·
     refine rl_condM (j := 30) h rfl (fun g9 h => ?_) (fun g9 h => ?_)
     ·
      refine oK 30 rfl rfl rfl g9 (v_fi rfl GTyp.f4 fd58_4 rfl (z := a_y.fields)) (oK 30 rfl rfl rfl g9 (v_loadI ty56 rfl) (oK 30 rfl rfl rfl g9 (v_ln (l := a_y.fields) rfl (fun _ _ h => h) sl56) (oK 30 rfl rfl rfl g9 (v_move rfl) (oK 30 rfl rfl rfl g9 (v_gtr rfl rfl) ?_))))
      exact oK 26 rfl rfl rfl g6 (v_pick_t rfl g9 rfl) (hJ8 _ () h _ (join_imp 6 rfl rfl (mod_cons (j := 36) rfl (fun _ _ h => h) mod_nil) (.cons .here .nil)))
     ·
      refine oP 30 rfl rfl g9 (oP 30 rfl rfl g9 (oP 30 rfl rfl g9 (oP 30 rfl rfl g9 (oP 30 rfl rfl g9 ?_))))
      exact oK 26 rfl rfl rfl g6 (v_pick_f rfl g9 rfl) (hJ8 _ () h _ (join_imp 6 rfl rfl (mod_cons (j := 36) rfl (fun _ _ h => h) mod_nil) (.cons .here .nil)))
 ·
  refine rl_condM (j := 19) h rfl (fun g3 h => ?_) (fun g3 h => ?_)
  ·
   refine oP 19 rfl rfl g3 (oP 19 rfl rfl g3 (oP 19 rfl rfl g3 (oP 19 rfl rfl g3 (oP 19 rfl rfl g3 ?_))))
   exact oV (v_pick_t rfl g3 rfl) (hJ2 _ () h _ (join_imp 6 rfl rfl (mod_cons (j := 25) rfl (fun _ _ h => h) mod_nil) (.cons .here .nil)))
  ·
   refine oK 19 rfl rfl rfl g3 (v_fi rfl GTyp.f4 fd58_4 rfl (z := a_y.fields)) (oK 19 rfl rfl rfl g3 (v_loadI ty56 rfl) (oK 19 rfl rfl rfl g3 (v_ln (l := a_y.fields) rfl (fun _ _ h => h) sl56) (oK 19 rfl rfl rfl g3 (v_move rfl) (oK 19 rfl rfl rfl g3 (v_lss rfl rfl) ?_))))
   exact oV (v_pick_f rfl g3 rfl) (hJ2 _ () h _ (join_imp 6 rfl rfl (mod_cons (j := 25) rfl (fun _ _ h => h) mod_nil) (.cons .here .nil)))

theorem extend_walker_field_grp_w : ∀ n, extend_walker_field_C (extend_walker_field n) ∧ extend_walker_extends_C (extend_walker_extends n) ∧ extend_walker_fields_C (extend_walker_fields n)
 | 0 => ⟨fun h => (by cases h), fun h => (by cases h), fun h => (by cases h)⟩
 | n + 1 => by
  obtain ⟨h0, h1, h2⟩ := extend_walker_field_grp_w n
  exact ⟨extend_walker_field_w0 h0 h1 h2, extend_walker_extends_w0 h0 h1 h2, extend_walker_fields_w0 h0 h1 h2⟩
theorem extend_walker_extends_w (n : Nat) : extend_walker_extends_C (extend_walker_extends n) := (extend_walker_field_grp_w n).2.1
theorem extend_Type_w : ∀ {a_a : GTab} {a_i : Int} {a_b : GTab} {a_k : Int} {r : Bool}, extend_Type a_a a_i a_b a_k = some r → Ctr Tryd.prog 16 [isv (a_a), isv (a_i), isv (a_b), isv (a_k)] [] (fun R H => R = oneOf [isv (r)] ∧ H = []) := by
 intro a_a a_i a_b a_k r h
 unfold extend_Type at h
 refine spec_intro Tryd.func16 rfl (by decide +kernel) (by rfl) fun w0 S0 hT => ?_
 refine wsr (oT (t_boxIC (y := a_a) rfl (fun _ _ h => h) (oT (t_boxIC (y := a_b) rfl (fun _ _ h => h) (oA rfl (rnf ?_))))))
 refine wsr (oV (v_loadI ty26 rfl) (oV (v_loadI ty26 rfl) (oV (v_build (z := (GXsd.mk a_a a_b)) rfl bu82 ze82 (.cons GXsd.f0 fd82_0 rfl (fun _ _ h => h) (.cons GXsd.f1 fd82_1 rfl (fun _ _ h => h) .nil))) (oV (v_build (z := (GXwk.mk (GXsd.mk a_a a_b) (300 : Int))) rfl bu84 ze84 (.cons GXwk.f0 fd84_0 rfl (fun _ _ h => h) (.cons GXwk.f1 fd84_1 rfl (fun _ _ h => h) .nil))) ?_))))
 refine oT (t_boxC (y := (GXwk.mk (GXsd.mk a_a a_b) (300 : Int))) rfl (fun _ _ h => h) fun b1 => oA rfl (rnf (wsr (oM rfl ?_))))
 refine oM rfl (oM rfl (cal_inv h fun y2 hy2 h => oT (t_call (extend_walker_extends_w fuel hy2) hT (.same rfl (.same rfl (.same rfl .nil))) (.cons .here .nil) (fun R H' hR => ?_))))
 obtain ⟨rfl, rfl⟩ := hR
 refine oA rfl (rnf (w_ret (ret_post (.tmp rfl .nil) .nil ?_)))
 obtain rfl := Option.some.inj h
 exact ⟨rfl, rfl⟩


theorem extend_May_w : ∀ {a_a : GTab} {a_b : GTab} {r : Int × Int}, extend_May a_a a_b = some r → Ctr Tryd.prog 14 [isv (a_a), isv (a_b)] [] (fun R H => R = oneOf [isv (r.1), isv (r.2)] ∧ H = []) := by
 intro a_a a_b r h
 unfold extend_May at h
 refine spec_intro Tryd.func14 rfl (by decide +kernel) (by rfl) fun w0 S0 hT => ?_
 refine wsr (oT (t_boxIC (y := a_a) rfl (fun _ _ h => h) (oT (t_boxIC (y := a_b) rfl (fun _ _ h => h) (oA rfl (oA rfl ?_))))))
 refine rnf (w_seq (wsr (oV (v_fi rfl GTab.f0 fd26_0 rfl (z := a_a.name)) (oV (v_loadI ty9 rfl) ?_))))
 refine oV (v_fi rfl GTab.f0 fd26_0 rfl (z := a_b.name)) (oV (v_loadI ty9 rfl) (oV (v_neA eq9 rfl rfl) (rnf (w_condM h rfl (fun _ h => ?_) (fun _ h => ?_)))))
 ·
  refine wsr (oA rfl (oA rfl (rnf (w_ret ?_))))
  refine ret_nxt (ret_post (.tmp rfl (.tmp rfl .nil)) .nil ?_)
  obtain rfl := Option.some.inj h
  exact ⟨rfl, rfl⟩
 ·
  refine wkf (w_seq (wsr (oV (v_fi rfl GTab.f1 fd26_1 rfl (z := a_a.names)) (oV (v_loadI ty22 rfl) ?_))))
  refine oV (v_ln (l := a_a.names) rfl (fun _ _ h => h) sl22) (oM rfl (rnf (w_block (w_lp (ι := Int) (γ := Unit) (fun q1 g1 => [(16, isv (q1))]) (fun q1 g1 => []) h () (mod_cons (j := 16) rfl (fun _ _ h => h) mod_nil) .nil (fun L2 q1 g1 Q19 h hL2 eL2 rL2 => ?_)))))
  refine wsr (oV (v_lss rfl rfl) (rnf (w_seq (w_condM h rfl (fun _ h => ?_) (fun _ h => ?_)))))
  ·
   refine wkf (w_seq (w_block (wsr (oM rfl ?_))))
   refine cal_inv h fun y11 hy11 h => oV (v_ix (l := a_a.names) rfl (fun _ _ h => h) rfl sl22 hy11) (oV (v_loadI ty9 rfl) (oA rfl (oA rfl ?_)))
   refine rnf (w_seq (w_regionD (.v 0 (.v 1 (.v 2 (.v 3 (.v 4 (.v 5 (.v 6 (.v 7 (.v 8 (.v 9 (.v 10 (.v 11 (.v 12 (.v 13 (.v 14 (.t 15 (.t 16 (.v 17 (.v 18 .nil))))))))))))))))))) moOrd (by kernel_rfl) ?_))
   refine rvm rfl rfl (rd_v rfl (v_fi rfl GTab.f2 fd26_2 rfl (z := a_a.roots)) (rd_v rfl (v_loadI ty23 rfl) (rd_v rfl (v_ln (l := a_a.roots) rfl (fun _ _ h => h) sl23) (rd_v rfl (v_geq rfl rfl) ?_))))
   refine rvm rfl rfl (rd_j (jb 39) je .nil h 13 rfl (fun q12 g12 h => ?_) (fun J13 h hJ13 => ?_))
   ·
    refine rd_nil (fin_nxt (w_condM h rfl (fun _ h => ?_) (fun _ h => ?_)))
    ·
     refine wsr (oM rfl (oA rfl (oA rfl (rnf ?_))))
     refine w_ret (ret_block (ret_nxt (rL2 _ (ret_block ?_))))
     refine ret_nxt (ret_post (.tmp rfl (.tmp rfl .nil)) .nil ?_)
     obtain rfl := Option.some.inj h
     exact ⟨rfl, rfl⟩
    ·
     refine w_skip (fin_block (fin_nxt (w_region (ck_inv h fun q18 h => ?_))))
     exact oV (v_add rfl rfl q18) (oM rfl (rl_nil (hL2 _ () h _ (ji 16 16 rfl rfl rfl))))
   ·
    refine rd_condM (j := 26) h rfl (fun g14 h => ?_) (fun g14 h => ?_)
    ·
     refine rpv 26 rfl rfl rfl g14 (rpv 26 rfl rfl rfl g14 (rpv 26 rfl rfl rfl g14 (rpv 26 rfl rfl rfl g14 (rpv 26 rfl rfl rfl g14 ?_))))
     refine rpv 26 rfl rfl rfl g14 (rpv 26 rfl rfl rfl g14 (rpv 26 rfl rfl rfl g14 (rpv 26 rfl rfl rfl g14 (rd_passT rfl rfl (dj := 26) rfl g14 ?_))))
     exact rd_passT rfl rfl (dj := 26) rfl g14 (rpv 26 rfl rfl rfl g14 (rd_v rfl (v_pick_t rfl g14 rfl) (hJ13 _ () h _ (ji 13 39 rfl rfl rfl))))
    ·
     refine rvt 26 rfl rfl rfl g14 (v_loadI ty26 rfl) (rvt 26 rfl rfl rfl g14 (v_fi rfl GTab.f2 fd26_2 rfl (z := a_a.roots)) (rvt 26 rfl rfl rfl g14 (v_loadI ty23 rfl) (rvt 26 rfl rfl rfl g14 (v_move rfl) (cal_inv h fun y15 hy15 h => ?_))))
     refine rvt 26 rfl rfl rfl g14 (v_ix (l := a_a.roots) rfl (fun _ _ h => h) rfl sl23 hy15) (rvt 26 rfl rfl rfl g14 (v_loadI ty3 rfl) (rvt 26 rfl rfl rfl g14 (v_loadI ty26 rfl) (rvt 26 rfl rfl rfl g14 (v_loadI ty26 rfl) (rvt 26 rfl rfl rfl g14 (v_move rfl) ?_))))
     refine cal_inv h fun y16 hy16 h => rd_tt rfl rfl rfl (dj := 26) rfl g14 (t_call (table_Find_w hy16) hT (.same rfl (.same rfl .nil)) .nil (fun R H' hR => ?_))
     obtain ⟨rfl, rfl⟩ := hR
     refine cal_inv h fun y17 hy17 h => rd_tt rfl rfl rfl (dj := 26) rfl g14 (t_call (extend_Type_w hy17) hT (.same rfl (.same rfl (.same rfl (.same rfl .nil)))) .nil (fun R H' hR => ?_))
     obtain ⟨rfl, rfl⟩ := hR
     exact rvt 26 rfl rfl rfl g14 (v_not rfl) (rd_v rfl (v_pick_f rfl g14 rfl) (hJ13 _ () h _ (ji 13 39 rfl rfl rfl)))
  ·
   refine w_exit (exi_nxt (eL2 _ _ (exi_block (fin_nxt ?_))))
   refine wsr (oA rfl (oA rfl (rnf (w_ret ?_))))
   refine ret_post (.tmp rfl (.tmp rfl .nil)) .nil ?_
   obtain rfl := Option.some.inj h
   exact ⟨rfl, rfl⟩


theorem law21_awake_w : ∀  {r : Bool}, law21_awake  = some r → Ctr Tryd.prog 13 [] [] (fun R H => R = oneOf [isv (r)] ∧ H = []) := by
 intro  r h
 unfold law21_awake at h
 refine spec_intro Tryd.func13 rfl (by decide +kernel) (by rfl) fun w0 S0 hT => ?_
 refine wsr (oA rfl (rnf (wsr (cal_inv h fun y1 hy1 h => ?_))))
 refine oT (t_call (oghamplay_Table_w hy1) hT (.same rfl .nil) .nil (fun R H' hR => ?_))
 obtain ⟨rfl, rfl⟩ := hR
 refine oM rfl (oV (v_extract rfl rfl) (oV (v_extract rfl rfl) (oT (t_alloc _ ze26 fun b2 => oT (t_storeC (y' := (y1.1 : GTab)) ty26 rfl rfl (fun _ _ h => h) .here rfl ?_)))))
 refine rl_upd (upd_imm 1 .here rfl) (oA rfl (rnf (wsr (cal_inv h fun y3 hy3 h => ?_))))
 refine oT (t_call (oghamplay_Table_w hy3) hT (.same rfl .nil) .nil (fun R H' hR => ?_))
 obtain ⟨rfl, rfl⟩ := hR
 refine oM rfl (oV (v_extract rfl rfl) (oV (v_extract rfl rfl) (oT (t_alloc _ ze26 fun b4 => oT (t_storeC (y' := (y3.1 : GTab)) ty26 rfl rfl (fun _ _ h => h) .here rfl ?_)))))
 refine rl_upd (upd_imm 3 .here rfl) (oA rfl (rnf (wsr (oV (v_loadI ty26 rfl) ?_))))
 refine oV (v_loadI ty26 rfl) (cal_inv h fun y5 hy5 h => oT (t_call (extend_May_w hy5) hT (.same rfl (.same rfl .nil)) .nil (fun R H' hR => ?_)))
 obtain ⟨rfl, rfl⟩ := hR
 refine oM rfl (oV (v_extract rfl rfl) (oV (v_extract rfl rfl) (oA rfl (oA rfl ?_))))
 refine rnf (wsr (oV (v_loadI ty26 rfl) (oV (v_loadI ty26 rfl) (cal_inv h fun y6 hy6 h => ?_))))
 refine oT (t_call (extend_May_w hy6) hT (.same rfl (.same rfl .nil)) .nil (fun R H' hR => ?_))
 obtain ⟨rfl, rfl⟩ := hR
 refine oM rfl (oV (v_extract rfl rfl) (oV (v_extract rfl rfl) (oA rfl (oA rfl ?_))))
 refine rnf (wsr (oM rfl (oM rfl (rl_j (jb 32) je .nil h 2 rfl (fun q7 g7 h => ?_) (fun J8 h hJ8 => ?_)))))
 ·
  refine oM rfl (rl_j (jb 36) je .nil h 3 rfl (fun q10 g10 h => ?_) (fun J11 h hJ11 => ?_))
  ·
   refine oM rfl (rl_j (jb 40) je .nil h 3 rfl (fun q13 g13 h => ?_) (fun J14 h hJ14 => ?_))
   ·
    refine oM rfl (rl_j (jb 45) je .nil h 4 rfl (fun q16 g16 h => ?_) (fun J17 h hJ17 => ?_))
    ·
     refine oA rfl (rnf (w_ret (ret_post (.tmp rfl .nil) .nil ?_)))
     obtain rfl := Option.some.inj h
     exact ⟨rfl, rfl⟩
    ·
     refine rl_condM (j := 41) h rfl (fun g18 h => ?_) (fun g18 h => ?_)
     ·
      refine oK 41 rfl rfl rfl g18 (v_loadI ty26 rfl) (oK 41 rfl rfl rfl g18 (v_loadI ty26 rfl) (cal_inv h fun y19 hy19 h => op_take rfl rfl (dj := 41) rfl g18 (t_call (extend_Type_w hy19) hT (.same rfl (.same rfl (.same rfl (.same rfl .nil)))) .nil (fun R H' hR => ?_))))
      obtain ⟨rfl, rfl⟩ := hR
      exact oV (v_pick_t rfl g18 rfl) (hJ17 _ () h _ (ji 4 45 rfl rfl rfl))
     ·
      exact oP 41 rfl rfl g18 (oP 41 rfl rfl g18 (oP 41 rfl rfl g18 (oV (v_pick_f rfl g18 rfl) (hJ17 _ () h _ (ji 4 45 rfl rfl rfl)))))
   ·
    refine rl_condM (j := 37) h rfl (fun g15 h => ?_) (fun g15 h => ?_)
    ·
     exact oK 37 rfl rfl rfl g15 (v_move rfl) (oK 37 rfl rfl rfl g15 (v_eql rfl rfl) (oV (v_pick_t rfl g15 rfl) (hJ14 _ () h _ (ji 3 40 rfl rfl rfl))))
    ·
     exact oP 37 rfl rfl g15 (oP 37 rfl rfl g15 (oV (v_pick_f rfl g15 rfl) (hJ14 _ () h _ (ji 3 40 rfl rfl rfl))))
  ·
   refine rl_condM (j := 33) h rfl (fun g12 h => ?_) (fun g12 h => ?_)
   ·
    exact oK 33 rfl rfl rfl g12 (v_move rfl) (oK 33 rfl rfl rfl g12 (v_eql rfl rfl) (oV (v_pick_t rfl g12 rfl) (hJ11 _ () h _ (ji 3 36 rfl rfl rfl))))
   ·
    exact oP 33 rfl rfl g12 (oP 33 rfl rfl g12 (oV (v_pick_f rfl g12 rfl) (hJ11 _ () h _ (ji 3 36 rfl rfl rfl))))
 ·
  refine rl_condM (j := 30) h rfl (fun g9 h => ?_) (fun g9 h => ?_)
  ·
   exact oK 30 rfl rfl rfl g9 (v_move rfl) (oV (v_pick_t rfl g9 rfl) (hJ8 _ () h _ (ji 2 32 rfl rfl rfl)))
  ·
   exact oP 30 rfl rfl g9 (oV (v_pick_f rfl g9 rfl) (hJ8 _ () h _ (ji 2 32 rfl rfl rfl)))

end Go.Proofs.YtajbipkppngccaaDoor


namespace Go.Proofs.YtajbipkppngccaaDoor
open Go.Sy
set_option maxRecDepth 4000
theorem r10_Find_w : ∀ {a_t : GTab} {a_name : Str} {r : Int}, r10_Find a_t a_name = some r → Ctr Tryd.prog 18 [isv (a_t), isv (a_name)] [] (fun R H => R = oneOf [isv (r)] ∧ H = []) := by
 intro a_t a_name r h
 unfold r10_Find at h
 refine spec_intro Tryd.func18 rfl (by decide +kernel) (by rfl) fun w0 S0 hT => ?_
 refine wsr (oT (t_boxIC (y := a_t) rfl (fun _ _ h => h) (oA rfl (rnf (w_seq ?_)))))
 refine wsr (oA rfl (rnf (w_block (w_lp (ι := Int) (γ := Unit) (fun q1 g1 => [(5, isv (q1))]) (fun q1 g1 => []) h () (mod_cons (j := 5) rfl (fun _ _ h => h) mod_nil) .nil (fun L2 q1 g1 Q15 h hL2 eL2 rL2 => ?_)))))
 refine w_seq (wsr (oM rfl (oV (v_fi rfl GTab.f1 fd26_1 rfl (z := a_t.names)) (oV (v_loadI ty22 rfl) ?_))))
 refine oV (v_ln (l := a_t.names) rfl (fun _ _ h => h) sl22) (oV (v_lss rfl rfl) (oM rfl (rl_j (jb 17) je .nil h 6 rfl (fun q9 g9 h => ?_) (fun J10 h hJ10 => ?_))))
 ·
  refine rnf (w_condM h rfl (fun _ h => ?_) (fun _ h => ?_))
  ·
   refine wkf (w_seq (w_block (wsr (oV (v_fi rfl GTab.f1 fd26_1 rfl (z := a_t.names)) ?_))))
   refine oV (v_loadI ty22 rfl) (oM rfl (cal_inv h fun y12 hy12 h => oV (v_ix (l := a_t.names) rfl (fun _ _ h => h) rfl sl22 hy12) (oV (v_loadI ty9 rfl) ?_)))
   refine oM rfl (oV (v_eqA eq9 rfl rfl) (rnf (w_condM h rfl (fun _ h => ?_) (fun _ h => ?_))))
   ·
    refine wsr (oV (v_fi rfl GTab.f2 fd26_2 rfl (z := a_t.roots)) (oV (v_loadI ty23 rfl) (oM rfl (cal_inv h fun y13 hy13 h => ?_))))
    refine oV (v_ix (l := a_t.roots) rfl (fun _ _ h => h) rfl sl23 hy13) (oV (v_loadI ty3 rfl) (oA rfl (rnf (w_ret ?_))))
    refine ret_block (ret_nxt (rL2 _ (ret_block (ret_nxt ?_))))
    refine ret_post (.tmp rfl .nil) .nil ?_
    obtain rfl := Option.some.inj h
    exact ⟨rfl, rfl⟩
   ·
    refine w_skip (fin_block (fin_nxt (w_region (oM rfl ?_))))
    exact ck_inv h fun q14 h => oV (v_add rfl rfl q14) (oA rfl (rl_nil (hL2 _ () h _ (ji 18 5 rfl rfl rfl))))
  ·
   refine w_exit (exi_nxt (eL2 _ _ (exi_block (fin_nxt ?_))))
   refine wsr (oA rfl (rnf (w_ret (ret_post (.tmp rfl .nil) .nil ?_))))
   obtain rfl := Option.some.inj h
   exact ⟨rfl, rfl⟩
 ·
  refine rl_condM (j := 11) h rfl (fun g11 h => ?_) (fun g11 h => ?_)
  ·
   refine oK 11 rfl rfl rfl g11 (v_move rfl) (oK 11 rfl rfl rfl g11 (v_fi rfl GTab.f2 fd26_2 rfl (z := a_t.roots)) (oK 11 rfl rfl rfl g11 (v_loadI ty23 rfl) (oK 11 rfl rfl rfl g11 (v_ln (l := a_t.roots) rfl (fun _ _ h => h) sl23) (oK 11 rfl rfl rfl g11 (v_lss rfl rfl) ?_))))
   exact oV (v_pick_t rfl g11 rfl) (hJ10 _ () h _ (ji 6 17 rfl rfl rfl))
  ·
   refine oP 11 rfl rfl g11 (oP 11 rfl rfl g11 (oP 11 rfl rfl g11 (oP 11 rfl rfl g11 (oP 11 rfl rfl g11 ?_))))
   exact oV (v_pick_f rfl g11 rfl) (hJ10 _ () h _ (ji 6 17 rfl rfl rfl))


theorem h_Plain_api_Tag_c1_w : ∀ {a_x : Tag} {a_y : Tag} {r : Bool}, h_Plain_api_Tag_c1 a_x a_y = some r → Ctr Tryd.prog 65 [isv (a_x), isv (a_y)] [] (fun R H => R = oneOf [isv (r)] ∧ H = []) := by
 intro a_x a_y r h
 unfold h_Plain_api_Tag_c1 at h
 refine spec_intro Tryd.func65 rfl (by decide +kernel) (by rfl) fun w0 S0 hT => ?_
 refine wsr (oT (t_boxIC (y := a_x) rfl (fun _ _ h => h) (oT (t_boxIC (y := a_y) rfl (fun _ _ h => h) (oA rfl (rnf ?_))))))
 refine wsr (oV (v_loadI ty61 rfl) (oV (v_loadI ty61 rfl) (oV (v_eqA eq61 rfl rfl) (oA rfl ?_))))
 refine rnf (w_ret (ret_post (.tmp rfl .nil) .nil ?_))
 obtain rfl := Option.some.inj h
 exact ⟨rfl, rfl⟩


theorem h_Same_api_Tag_w : ∀ {a_a : (List Tag)} {a_b : (List Tag)} {r : Bool}, h_Same_api_Tag a_a a_b = some r → Ctr Tryd.prog 64 [isv (a_a), isv (a_b), clov 65 []] [] (fun R H => R = oneOf [isv (r)] ∧ H = []) := by
 intro a_a a_b r h
 unfold h_Same_api_Tag at h
 refine spec_intro Tryd.func64 rfl (by decide +kernel) (by rfl) fun w0 S0 hT => ?_
 refine wsr (oA rfl (rnf (w_seq (wsr ?_))))
 refine oM rfl (oV (v_ln (l := a_a) rfl (fun _ _ h => h) sl52) (oM rfl (oV (v_ln (l := a_b) rfl (fun _ _ h => h) sl52) (oV (v_neq rfl rfl) ?_))))
 refine rnf (w_condM h rfl (fun _ h => ?_) (fun _ h => ?_))
 ·
  refine wsr (oA rfl (rnf (w_ret (ret_nxt ?_))))
  refine ret_post (.tmp rfl .nil) .nil ?_
  obtain rfl := Option.some.inj h
  exact ⟨rfl, rfl⟩
 ·
  refine wkf (w_seq (wsr (oA rfl (rnf ?_))))
  refine w_block (w_lp (ι := Int) (γ := Unit) (fun q1 g1 => [(7, isv (q1))]) (fun q1 g1 => []) h () (mod_cons (j := 7) rfl (fun _ _ h => h) mod_nil) .nil (fun L2 q1 g1 Q11 h hL2 eL2 rL2 => w_seq (wsr (oM rfl ?_))))
  refine oM rfl (oV (v_ln (l := a_a) rfl (fun _ _ h => h) sl52) (oV (v_lss rfl rfl) (rnf (w_condM h rfl (fun _ h => ?_) (fun _ h => ?_)))))
  ·
   refine wkf (w_seq (w_block (w_seq (w_regionD (.v 0 (.v 1 (.v 2 (.v 3 (.v 4 (.v 5 (.v 6 (.v 7 (.v 8 (.t 9 (.v 10 .nil))))))))))) moOrd (by kernel_rfl) ?_))))
   refine rvm rfl rfl (rvm rfl rfl (rvm rfl rfl (cal_inv h fun y7 hy7 h => rd_v rfl (v_ix (l := a_a) rfl (fun _ _ h => h) rfl sl52 hy7) ?_)))
   refine rd_v rfl (v_loadI ty61 rfl) (rvm rfl rfl (rvm rfl rfl (cal_inv h fun y8 hy8 h => rd_v rfl (v_ix (l := a_b) rfl (fun _ _ h => h) rfl sl52 hy8) ?_)))
   refine rd_v rfl (v_loadI ty61 rfl) (cal_inv h fun y9 hy9 h => rd_t rfl rfl (t_callC rfl (.same rfl (.same rfl .nil)) (h_Plain_api_Tag_c1_w hy9) hT .nil (fun R H' hR => ?_)))
   obtain ⟨rfl, rfl⟩ := hR
   refine rd_v rfl (v_not rfl) (rd_nil (fin_nxt (w_condM h rfl (fun _ h => ?_) (fun _ h => ?_))))
   ·
    refine wsr (oA rfl (rnf (w_ret (ret_block ?_))))
    refine ret_nxt (rL2 _ (ret_block (ret_nxt (ret_post (.tmp rfl .nil) .nil ?_))))
    obtain rfl := Option.some.inj h
    exact ⟨rfl, rfl⟩
   ·
    refine w_skip (fin_block (fin_nxt (w_region (oM rfl ?_))))
    exact ck_inv h fun q10 h => oV (v_add rfl rfl q10) (oA rfl (rl_nil (hL2 _ () h _ (ji 19 7 rfl rfl rfl))))
  ·
   refine w_exit (exi_nxt (eL2 _ _ (exi_block (fin_nxt ?_))))
   refine wsr (oA rfl (rnf (w_ret (ret_post (.tmp rfl .nil) .nil ?_))))
   obtain rfl := Option.some.inj h
   exact ⟨rfl, rfl⟩


theorem h_Plain_api_Tag_w : ∀ {a_a : (List Tag)} {a_b : (List Tag)} {r : Bool}, h_Plain_api_Tag a_a a_b = some r → Ctr Tryd.prog 36 [isv (a_a), isv (a_b)] [] (fun R H => R = oneOf [isv (r)] ∧ H = []) := by
 intro a_a a_b r h
 unfold h_Plain_api_Tag at h
 refine spec_intro Tryd.func36 rfl (by decide +kernel) (by rfl) fun w0 S0 hT => ?_
 refine wsr (oA rfl (rnf (wsr (oM rfl ?_))))
 refine oM rfl (cal_inv h fun y1 hy1 h => oT (t_call (h_Same_api_Tag_w hy1) hT (.same rfl (.same rfl (.same rfl .nil))) .nil (fun R H' hR => ?_)))
 obtain ⟨rfl, rfl⟩ := hR
 refine oA rfl (rnf (w_ret (ret_post (.tmp rfl .nil) .nil ?_)))
 obtain rfl := Option.some.inj h
 exact ⟨rfl, rfl⟩


theorem h_Plain_api_Item_c1_w : ∀ {a_x : GItem} {a_y : GItem} {r : Bool}, h_Plain_api_Item_c1 a_x a_y = some r → Ctr Tryd.prog 67 [isv (a_x), isv (a_y)] [] (fun R H => R = oneOf [isv (r)] ∧ H = []) := by
 intro a_x a_y r h
 unfold h_Plain_api_Item_c1 at h
 refine spec_intro Tryd.func67 rfl (by decide +kernel) (by rfl) fun w0 S0 hT => ?_
 refine wsr (oT (t_boxIC (y := a_x) rfl (fun _ _ h => h) (oT (t_boxIC (y := a_y) rfl (fun _ _ h => h) (oA rfl (rnf ?_))))))
 refine wsr (oV (v_loadI ty71 rfl) (oV (v_loadI ty71 rfl) (oV (v_eqA eq71 rfl rfl) (oA rfl ?_))))
 refine rnf (w_ret (ret_post (.tmp rfl .nil) .nil ?_))
 obtain rfl := Option.some.inj h
 exact ⟨rfl, rfl⟩


theorem h_Same_api_Item_w : ∀ {a_a : (List GItem)} {a_b : (List GItem)} {r : Bool}, h_Same_api_Item a_a a_b = some r → Ctr Tryd.prog 66 [isv (a_a), isv (a_b), clov 67 []] [] (fun R H => R = oneOf [isv (r)] ∧ H = []) := by
 intro a_a a_b r h
 unfold h_Same_api_Item at h
 refine spec_intro Tryd.func66 rfl (by decide +kernel) (by rfl) fun w0 S0 hT => ?_
 refine wsr (oA rfl (rnf (w_seq (wsr ?_))))
 refine oM rfl (oV (v_ln (l := a_a) rfl (fun _ _ h => h) sl55) (oM rfl (oV (v_ln (l := a_b) rfl (fun _ _ h => h) sl55) (oV (v_neq rfl rfl) ?_))))
 refine rnf (w_condM h rfl (fun _ h => ?_) (fun _ h => ?_))
 ·
  refine wsr (oA rfl (rnf (w_ret (ret_nxt ?_))))
  refine ret_post (.tmp rfl .nil) .nil ?_
  obtain rfl := Option.some.inj h
  exact ⟨rfl, rfl⟩
 ·
  refine wkf (w_seq (wsr (oA rfl (rnf ?_))))
  refine w_block (w_lp (ι := Int) (γ := Unit) (fun q1 g1 => [(7, isv (q1))]) (fun q1 g1 => []) h () (mod_cons (j := 7) rfl (fun _ _ h => h) mod_nil) .nil (fun L2 q1 g1 Q11 h hL2 eL2 rL2 => w_seq (wsr (oM rfl ?_))))
  refine oM rfl (oV (v_ln (l := a_a) rfl (fun _ _ h => h) sl55) (oV (v_lss rfl rfl) (rnf (w_condM h rfl (fun _ h => ?_) (fun _ h => ?_)))))
  ·
   refine wkf (w_seq (w_block (w_seq (w_regionD (.v 0 (.v 1 (.v 2 (.v 3 (.v 4 (.v 5 (.v 6 (.v 7 (.v 8 (.t 9 (.v 10 .nil))))))))))) moOrd (by kernel_rfl) ?_))))
   refine rvm rfl rfl (rvm rfl rfl (rvm rfl rfl (cal_inv h fun y7 hy7 h => rd_v rfl (v_ix (l := a_a) rfl (fun _ _ h => h) rfl sl55 hy7) ?_)))
   refine rd_v rfl (v_loadI ty71 rfl) (rvm rfl rfl (rvm rfl rfl (cal_inv h fun y8 hy8 h => rd_v rfl (v_ix (l := a_b) rfl (fun _ _ h => h) rfl sl55 hy8) ?_)))
   refine rd_v rfl (v_loadI ty71 rfl) (cal_inv h fun y9 hy9 h => rd_t rfl rfl (t_callC rfl (.same rfl (.same rfl .nil)) (h_Plain_api_Item_c1_w hy9) hT .nil (fun R H' hR => ?_)))
   obtain ⟨rfl, rfl⟩ := hR
   refine rd_v rfl (v_not rfl) (rd_nil (fin_nxt (w_condM h rfl (fun _ h => ?_) (fun _ h => ?_))))
   ·
    refine wsr (oA rfl (rnf (w_ret (ret_block ?_))))
    refine ret_nxt (rL2 _ (ret_block (ret_nxt (ret_post (.tmp rfl .nil) .nil ?_))))
    obtain rfl := Option.some.inj h
    exact ⟨rfl, rfl⟩
   ·
    refine w_skip (fin_block (fin_nxt (w_region (oM rfl ?_))))
    exact ck_inv h fun q10 h => oV (v_add rfl rfl q10) (oA rfl (rl_nil (hL2 _ () h _ (ji 19 7 rfl rfl rfl))))
  ·
   refine w_exit (exi_nxt (eL2 _ _ (exi_block (fin_nxt ?_))))
   refine wsr (oA rfl (rnf (w_ret (ret_post (.tmp rfl .nil) .nil ?_))))
   obtain rfl := Option.some.inj h
   exact ⟨rfl, rfl⟩


theorem h_Plain_api_Item_w : ∀ {a_a : (List GItem)} {a_b : (List GItem)} {r : Bool}, h_Plain_api_Item a_a a_b = some r → Ctr Tryd.prog 37 [isv (a_a), isv (a_b)] [] (fun R H => R = oneOf [isv (r)] ∧ H = []) := by
 intro a_a a_b r h
 unfold h_Plain_api_Item at h
 refine spec_intro Tryd.func37 rfl (by decide +kernel) (by rfl) fun w0 S0 hT => ?_
 refine wsr (oA rfl (rnf (wsr (oM rfl ?_))))
 refine oM rfl (cal_inv h fun y1 hy1 h => oT (t_call (h_Same_api_Item_w hy1) hT (.same rfl (.same rfl (.same rfl .nil))) .nil (fun R H' hR => ?_)))
 obtain ⟨rfl, rfl⟩ := hR
 refine oA rfl (rnf (w_ret (ret_post (.tmp rfl .nil) .nil ?_)))
 obtain rfl := Option.some.inj h
 exact ⟨rfl, rfl⟩


def law21_alike_C (f' : GTab → Int → GTab → Int → Option (Bool)) : Prop :=
 ∀ {a_a : GTab} {a_i : Int} {a_b : GTab} {a_k : Int} {r : Bool}, f' a_a a_i a_b a_k = some r → Ctr Tryd.prog 19 [isv (a_a), isv (a_i), isv (a_b), isv (a_k)] [] (fun R H => R = oneOf [isv (r)] ∧ H = [])
theorem law21_alike_w0 {law21_alike' : GTab → Int → GTab → Int → Option (Bool)} (h_law21_alike : law21_alike_C law21_alike') : ∀ {a_a : GTab} {a_i : Int} {a_b : GTab} {a_k : Int} {r : Bool}, law21_alike_F law21_alike' a_a a_i a_b a_k = some r → Ctr Tryd.prog 19 [isv (a_a), isv (a_i), isv (a_b), isv (a_k)] [] (fun R H => R = oneOf [isv (r)] ∧ H = []) := by
 intro a_a a_i a_b a_k r h
 unfold law21_alike_F at h
 refine spec_intro Tryd.func19 rfl (by decide +kernel) (by rfl) fun w0 S0 hT => ?_
 refine wsr (oT (t_boxIC (y := a_a) rfl (fun _ _ h => h) (oT (t_boxIC (y := a_b) rfl (fun _ _ h => h) (oA rfl (rnf ?_))))))
 refine w_seq (w_J (ι := GTyp × GTyp) (γ := Unit) (fun q1 g1 => [(9, immv (q1.1)), (10, immv (q1.2))]) (fun q1 g1 => []) .nil h (fun q1 g1 h => ?_) (fun J2 h hJ2 => ?_))
 ·
  refine w_seq (wsr (oV (v_fi rfl GTyp.f0 fd58_0 rfl (z := q1.1.kind)) (oV (v_loadI ty3 rfl) (oV (v_fi rfl GTyp.f0 fd58_0 rfl (z := q1.2.kind)) ?_))))
  refine oV (v_loadI ty3 rfl) (oV (v_neq rfl rfl) (oM rfl (rl_j (jb 34) je .nil h 7 rfl (fun q9 g9 h => ?_) (fun J10 h hJ10 => ?_))))
  ·
   refine oM rfl (rl_j (jb 41) je .nil h 6 rfl (fun q13 g13 h => ?_) (fun J14 h hJ14 => ?_))
   ·
    refine oM rfl (rl_j (jb 49) je .nil h 7 rfl (fun q16 g16 h => ?_) (fun J17 h hJ17 => ?_))
    ·
     refine oM rfl (rl_j (jb 56) je .nil h 6 rfl (fun q20 g20 h => ?_) (fun J21 h hJ21 => ?_))
     ·
      refine oM rfl (rl_j (jb 63) je .nil h 6 rfl (fun q23 g23 h => ?_) (fun J24 h hJ24 => ?_))
      ·
       refine oM rfl (rl_j (jb 72) je .nil h 8 rfl (fun q26 g26 h => ?_) (fun J27 h hJ27 => ?_))
       ·
        refine rnf (w_condM h rfl (fun _ h => ?_) (fun _ h => ?_))
        ·
         refine wsr (oA rfl (rnf (w_ret (ret_nxt ?_))))
         refine ret_post (.tmp rfl .nil) .nil ?_
         obtain rfl := Option.some.inj h
         exact ⟨rfl, rfl⟩
        ·
         refine wkf (w_seq (wsr (oV (v_fi rfl GTyp.f0 fd58_0 rfl (z := q1.1.kind)) (oV (v_loadI ty3 rfl) ?_))))
         refine oV (v_eql rfl rfl) (oM rfl (rl_j (jb 85) je .nil h 9 rfl (fun q29 g29 h => ?_) (fun J30 h hJ30 => ?_)))
         ·
          refine rnf (w_condM h rfl (fun _ h => ?_) (fun _ h => ?_))
          ·
           refine wsr (oA rfl (rnf (w_ret (ret_nxt ?_))))
           refine ret_post (.tmp rfl .nil) .nil ?_
           obtain rfl := Option.some.inj h
           exact ⟨rfl, rfl⟩
          ·
           refine wkf (w_seq (wsr (oA rfl (rnf ?_))))
           refine w_block (w_lp (ι := Int) (γ := Unit) (fun q33 g33 => [(11, isv (q33))]) (fun q33 g33 => []) h () (mod_cons (j := 11) rfl (fun _ _ h => h) mod_nil) .nil (fun L34 q33 g33 Q53 h hL34 eL34 rL34 => w_seq (wsr (oM rfl ?_))))
           refine oV (v_fi rfl GTyp.f4 fd58_4 rfl (z := q1.1.fields)) (oV (v_loadI ty56 rfl) (oV (v_ln (l := q1.1.fields) rfl (fun _ _ h => h) sl56) (oV (v_lss rfl rfl) (rnf ?_))))
           refine w_condM h rfl (fun _ h => ?_) (fun _ h => ?_)
           ·
            refine wkf (w_seq (w_block (w_seq (w_regionD (.v 0 (.v 1 (.v 2 (.v 3 (.v 4 (.v 5 (.v 6 (.v 7 (.v 8 (.v 9 (.v 10 (.v 11 (.v 12 (.v 13 (.v 14 (.v 15 (.v 16 (.v 17 (.v 18 (.v 19 (.v 20 (.v 21 (.v 22 (.v 23 (.v 24 (.v 25 (.v 26 (.v 27 (.t 28 (.v 29 (.v 30 .nil))))))))))))))))))))))))))))))) moOrd (by kernel_rfl) ?_))))
            refine rd_v rfl (v_fi rfl GTyp.f4 fd58_4 rfl (z := q1.1.fields)) (rd_v rfl (v_loadI ty56 rfl) (rvm rfl rfl (cal_inv h fun y44 hy44 h => rd_v rfl (v_ix (l := q1.1.fields) rfl (fun _ _ h => h) rfl sl56 hy44) ?_)))
            refine rd_v rfl (v_fi rfl GFld.f0 fd69_0 rfl (z := y44.name)) (rd_v rfl (v_loadI ty9 rfl) (rd_v rfl (v_fi rfl GTyp.f4 fd58_4 rfl (z := q1.2.fields)) (rd_v rfl (v_loadI ty56 rfl) (rvm rfl rfl ?_))))
            refine cal_inv h fun y45 hy45 h => rd_v rfl (v_ix (l := q1.2.fields) rfl (fun _ _ h => h) rfl sl56 hy45) (rd_v rfl (v_fi rfl GFld.f0 fd69_0 rfl (z := y45.name)) (rd_v rfl (v_loadI ty9 rfl) (rd_v rfl (v_neA eq9 rfl rfl) ?_)))
            refine rvm rfl rfl (rd_j (jb 123) je .nil h 17 rfl (fun q46 g46 h => ?_) (fun J47 h hJ47 => ?_))
            ·
             refine rd_nil (fin_nxt (w_condM h rfl (fun _ h => ?_) (fun _ h => ?_)))
             ·
              refine wsr (oA rfl (rnf (w_ret (ret_block ?_))))
              refine ret_nxt (rL34 _ (ret_block (ret_nxt (ret_post (.tmp rfl .nil) .nil ?_))))
              obtain rfl := Option.some.inj h
              exact ⟨rfl, rfl⟩
             ·
              refine w_skip (fin_block (fin_nxt (w_region (oM rfl ?_))))
              exact ck_inv h fun q52 h => oV (v_add rfl rfl q52) (oA rfl (rl_nil (hL34 _ () h _ (ji 24 11 rfl rfl rfl))))
            ·
             refine rd_condM (j := 106) h rfl (fun g48 h => ?_) (fun g48 h => ?_)
             ·
              refine rpv 106 rfl rfl rfl g48 (rpv 106 rfl rfl rfl g48 (rpv 106 rfl rfl rfl g48 (rpv 106 rfl rfl rfl g48 (rpv 106 rfl rfl rfl g48 ?_))))
              refine rpv 106 rfl rfl rfl g48 (rpv 106 rfl rfl rfl g48 (rpv 106 rfl rfl rfl g48 (rpv 106 rfl rfl rfl g48 (rpv 106 rfl rfl rfl g48 ?_))))
              refine rpv 106 rfl rfl rfl g48 (rpv 106 rfl rfl rfl g48 (rpv 106 rfl rfl rfl g48 (rpv 106 rfl rfl rfl g48 (rd_passT rfl rfl (dj := 106) rfl g48 ?_))))
              exact rpv 106 rfl rfl rfl g48 (rd_v rfl (v_pick_t rfl g48 rfl) (hJ47 _ () h _ (ji 17 123 rfl rfl rfl)))
             ·
              refine rvt 106 rfl rfl rfl g48 (v_loadI ty26 rfl) (rvt 106 rfl rfl rfl g48 (v_fi rfl GTyp.f4 fd58_4 rfl (z := q1.1.fields)) (rvt 106 rfl rfl rfl g48 (v_loadI ty56 rfl) (rvt 106 rfl rfl rfl g48 (v_move rfl) (cal_inv h fun y49 hy49 h => ?_))))
              refine rvt 106 rfl rfl rfl g48 (v_ix (l := q1.1.fields) rfl (fun _ _ h => h) rfl sl56 hy49) (rvt 106 rfl rfl rfl g48 (v_fi rfl GFld.f1 fd69_1 rfl (z := y49.ty)) (rvt 106 rfl rfl rfl g48 (v_loadI ty3 rfl) (rvt 106 rfl rfl rfl g48 (v_loadI ty26 rfl) (rvt 106 rfl rfl rfl g48 (v_fi rfl GTyp.f4 fd58_4 rfl (z := q1.2.fields)) ?_))))
              refine rvt 106 rfl rfl rfl g48 (v_loadI ty56 rfl) (rvt 106 rfl rfl rfl g48 (v_move rfl) (cal_inv h fun y50 hy50 h => rvt 106 rfl rfl rfl g48 (v_ix (l := q1.2.fields) rfl (fun _ _ h => h) rfl sl56 hy50) (rvt 106 rfl rfl rfl g48 (v_fi rfl GFld.f1 fd69_1 rfl (z := y50.ty)) ?_)))
              refine rvt 106 rfl rfl rfl g48 (v_loadI ty3 rfl) (cal_inv h fun y51 hy51 h => rd_tt rfl rfl rfl (dj := 106) rfl g48 (t_call (h_law21_alike hy51) hT (.same rfl (.same rfl (.same rfl (.same rfl .nil)))) .nil (fun R H' hR => ?_)))
              obtain ⟨rfl, rfl⟩ := hR
              exact rvt 106 rfl rfl rfl g48 (v_not rfl) (rd_v rfl (v_pick_f rfl g48 rfl) (hJ47 _ () h _ (ji 17 123 rfl rfl rfl)))
           ·
            refine w_exit (exi_nxt (eL34 _ _ (exi_block (fin_nxt ?_))))
            refine wsr (oA rfl (rnf (w_ret (ret_post (.tmp rfl .nil) .nil ?_))))
            obtain rfl := Option.some.inj h
            exact ⟨rfl, rfl⟩
         ·
          refine rl_condM (j := 76) h rfl (fun g31 h => ?_) (fun g31 h => ?_)
          ·
           refine oK 76 rfl rfl rfl g31 (v_loadI ty26 rfl) (oK 76 rfl rfl rfl g31 (v_fi rfl GTyp.f7 fd58_7 rfl (z := q1.1.of)) (oK 76 rfl rfl rfl g31 (v_loadI ty3 rfl) (oK 76 rfl rfl rfl g31 (v_loadI ty26 rfl) (oK 76 rfl rfl rfl g31 (v_fi rfl GTyp.f7 fd58_7 rfl (z := q1.2.of)) ?_))))
           refine oK 76 rfl rfl rfl g31 (v_loadI ty3 rfl) (cal_inv h fun y32 hy32 h => op_take rfl rfl (dj := 76) rfl g31 (t_call (h_law21_alike hy32) hT (.same rfl (.same rfl (.same rfl (.same rfl .nil)))) .nil (fun R H' hR => ?_)))
           obtain ⟨rfl, rfl⟩ := hR
           exact oK 76 rfl rfl rfl g31 (v_not rfl) (oV (v_pick_t rfl g31 rfl) (hJ30 _ () h _ (ji 9 85 rfl rfl rfl)))
          ·
           refine oP 76 rfl rfl g31 (oP 76 rfl rfl g31 (oP 76 rfl rfl g31 (oP 76 rfl rfl g31 (oP 76 rfl rfl g31 ?_))))
           exact oP 76 rfl rfl g31 (oP 76 rfl rfl g31 (oP 76 rfl rfl g31 (oV (v_pick_f rfl g31 rfl) (hJ30 _ () h _ (ji 9 85 rfl rfl rfl)))))
       ·
        refine rl_condM (j := 64) h rfl (fun g28 h => ?_) (fun g28 h => ?_)
        ·
         refine oP 64 rfl rfl g28 (oP 64 rfl rfl g28 (oP 64 rfl rfl g28 (oP 64 rfl rfl g28 (oP 64 rfl rfl g28 ?_))))
         exact oP 64 rfl rfl g28 (oP 64 rfl rfl g28 (oV (v_pick_t rfl g28 rfl) (hJ27 _ () h _ (ji 8 72 rfl rfl rfl))))
        ·
         refine oK 64 rfl rfl rfl g28 (v_fi rfl GTyp.f4 fd58_4 rfl (z := q1.1.fields)) (oK 64 rfl rfl rfl g28 (v_loadI ty56 rfl) (oK 64 rfl rfl rfl g28 (v_ln (l := q1.1.fields) rfl (fun _ _ h => h) sl56) (oK 64 rfl rfl rfl g28 (v_fi rfl GTyp.f4 fd58_4 rfl (z := q1.2.fields)) (oK 64 rfl rfl rfl g28 (v_loadI ty56 rfl) ?_))))
         exact oK 64 rfl rfl rfl g28 (v_ln (l := q1.2.fields) rfl (fun _ _ h => h) sl56) (oK 64 rfl rfl rfl g28 (v_neq rfl rfl) (oV (v_pick_f rfl g28 rfl) (hJ27 _ () h _ (ji 8 72 rfl rfl rfl))))
      ·
       refine rl_condM (j := 57) h rfl (fun g25 h => ?_) (fun g25 h => ?_)
       ·
        refine oP 57 rfl rfl g25 (oP 57 rfl rfl g25 (oP 57 rfl rfl g25 (oP 57 rfl rfl g25 (oP 57 rfl rfl g25 ?_))))
        exact oV (v_pick_t rfl g25 rfl) (hJ24 _ () h _ (ji 6 63 rfl rfl rfl))
       ·
        refine oK 57 rfl rfl rfl g25 (v_fi rfl GTyp.f6 fd58_6 rfl (z := q1.1.more)) (oK 57 rfl rfl rfl g25 (v_loadI ty4 rfl) (oK 57 rfl rfl rfl g25 (v_fi rfl GTyp.f6 fd58_6 rfl (z := q1.2.more)) (oK 57 rfl rfl rfl g25 (v_loadI ty4 rfl) (oK 57 rfl rfl rfl g25 (v_neA eq4 rfl rfl) ?_))))
        exact oV (v_pick_f rfl g25 rfl) (hJ24 _ () h _ (ji 6 63 rfl rfl rfl))
     ·
      refine rl_condM (j := 50) h rfl (fun g22 h => ?_) (fun g22 h => ?_)
      ·
       refine oP 50 rfl rfl g22 (oP 50 rfl rfl g22 (oP 50 rfl rfl g22 (oP 50 rfl rfl g22 (oP 50 rfl rfl g22 ?_))))
       exact oV (v_pick_t rfl g22 rfl) (hJ21 _ () h _ (ji 6 56 rfl rfl rfl))
      ·
       refine oK 50 rfl rfl rfl g22 (v_fi rfl GTyp.f5 fd58_5 rfl (z := q1.1.root)) (oK 50 rfl rfl rfl g22 (v_loadI ty3 rfl) (oK 50 rfl rfl rfl g22 (v_fi rfl GTyp.f5 fd58_5 rfl (z := q1.2.root)) (oK 50 rfl rfl rfl g22 (v_loadI ty3 rfl) (oK 50 rfl rfl rfl g22 (v_neq rfl rfl) ?_))))
       exact oV (v_pick_f rfl g22 rfl) (hJ21 _ () h _ (ji 6 56 rfl rfl rfl))
    ·
     refine rl_condM (j := 42) h rfl (fun g18 h => ?_) (fun g18 h => ?_)
     ·
      refine oP 42 rfl rfl g18 (oP 42 rfl rfl g18 (oP 42 rfl rfl g18 (oP 42 rfl rfl g18 (oP 42 rfl rfl g18 ?_))))
      exact oP 42 rfl rfl g18 (oV (v_pick_t rfl g18 rfl) (hJ17 _ () h _ (ji 7 49 rfl rfl rfl)))
     ·
      refine oK 42 rfl rfl rfl g18 (v_fi rfl GTyp.f3 fd58_3 rfl (z := q1.1.items)) (oK 42 rfl rfl rfl g18 (v_loadI ty55 rfl) (oK 42 rfl rfl rfl g18 (v_fi rfl GTyp.f3 fd58_3 rfl (z := q1.2.items)) (oK 42 rfl rfl rfl g18 (v_loadI ty55 rfl) (cal_inv h fun y19 hy19 h => ?_))))
      refine op_take rfl rfl (dj := 42) rfl g18 (t_call (h_Plain_api_Item_w hy19) hT (.same rfl (.same rfl .nil)) .nil (fun R H' hR => ?_))
      obtain ⟨rfl, rfl⟩ := hR
      exact oK 42 rfl rfl rfl g18 (v_not rfl) (oV (v_pick_f rfl g18 rfl) (hJ17 _ () h _ (ji 7 49 rfl rfl rfl)))
   ·
    refine rl_condM (j := 35) h rfl (fun g15 h => ?_) (fun g15 h => ?_)
    ·
     refine oP 35 rfl rfl g15 (oP 35 rfl rfl g15 (oP 35 rfl rfl g15 (oP 35 rfl rfl g15 (oP 35 rfl rfl g15 ?_))))
     exact oV (v_pick_t rfl g15 rfl) (hJ14 _ () h _ (ji 6 41 rfl rfl rfl))
    ·
     refine oK 35 rfl rfl rfl g15 (v_fi rfl GTyp.f2 fd58_2 rfl (z := q1.1.con)) (oK 35 rfl rfl rfl g15 (v_loadI ty54 rfl) (oK 35 rfl rfl rfl g15 (v_fi rfl GTyp.f2 fd58_2 rfl (z := q1.2.con)) (oK 35 rfl rfl rfl g15 (v_loadI ty54 rfl) (oK 35 rfl rfl rfl g15 (v_neA eq54 rfl rfl) ?_))))
     exact oV (v_pick_f rfl g15 rfl) (hJ14 _ () h _ (ji 6 41 rfl rfl rfl))
  ·
   refine rl_condM (j := 27) h rfl (fun g11 h => ?_) (fun g11 h => ?_)
   ·
    refine oP 27 rfl rfl g11 (oP 27 rfl rfl g11 (oP 27 rfl rfl g11 (oP 27 rfl rfl g11 (oP 27 rfl rfl g11 ?_))))
    exact oP 27 rfl rfl g11 (oV (v_pick_t rfl g11 rfl) (hJ10 _ () h _ (ji 7 34 rfl rfl rfl)))
   ·
    refine oK 27 rfl rfl rfl g11 (v_fi rfl GTyp.f1 fd58_1 rfl (z := q1.1.tags)) (oK 27 rfl rfl rfl g11 (v_loadI ty52 rfl) (oK 27 rfl rfl rfl g11 (v_fi rfl GTyp.f1 fd58_1 rfl (z := q1.2.tags)) (oK 27 rfl rfl rfl g11 (v_loadI ty52 rfl) (cal_inv h fun y12 hy12 h => ?_))))
    refine op_take rfl rfl (dj := 27) rfl g11 (t_call (h_Plain_api_Tag_w hy12) hT (.same rfl (.same rfl .nil)) .nil (fun R H' hR => ?_))
    obtain ⟨rfl, rfl⟩ := hR
    exact oK 27 rfl rfl rfl g11 (v_not rfl) (oV (v_pick_f rfl g11 rfl) (hJ10 _ () h _ (ji 7 34 rfl rfl rfl)))
 ·
  refine w_regionD (.v 0 (.v 1 (.v 2 (.v 3 (.v 4 (.v 5 (.v 6 (.v 7 (.v 8 (.v 9 (.alt 10 (.t 11 (.t 12 (.t 13 .nil))) (.t 11 (.t 10 (.t 12 (.t 13 .nil))))))))))))))) moOrd (by kernel_rfl) ?_
  refine rd_v rfl (v_fi rfl GTab.f3 fd26_3 rfl (z := a_a.types)) (rd_v rfl (v_loadI ty24 rfl) (rvm rfl rfl (cal_inv h fun y3 hy3 h => rd_v rfl (v_ix (l := a_a.types) rfl (fun _ _ h => h) rfl sl24 hy3) ?_)))
  refine rd_v rfl (v_loadI ty58 rfl) (rd_v rfl (v_fi rfl GTab.f3 fd26_3 rfl (z := a_b.types)) (rd_v rfl (v_loadI ty24 rfl) (rvm rfl rfl (cal_inv h fun y4 hy4 h => ?_))))
  refine rd_v rfl (v_ix (l := a_b.types) rfl (fun _ _ h => h) rfl sl24 hy4) (rd_v rfl (v_loadI ty58 rfl) (rd_two ?_ ?_))
  ·
   refine rd_t rfl rfl (t_alloc _ ze58 fun b5 => rd_t rfl rfl (t_alloc _ ze58 fun b6 => rd_t rfl rfl (t_storeC (y' := (y3 : GTyp)) ty58 rfl rfl (fun _ _ h => h) (.there .here) rfl (rd_upd (upd_imm 9 .here rfl) (rd_t rfl rfl (t_storeC (y' := (y4 : GTyp)) ty58 rfl rfl (fun _ _ h => h) .here rfl ?_))))))
   exact rd_upd (upd_imm 10 .here rfl) (rd_nil (hJ2 _ () h _ (join_imp 14 rfl rfl (mod_cons (j := 9) rfl (fun _ _ h => h) (mod_cons (j := 10) rfl (fun _ _ h => h) mod_nil)) .nil)))
  ·
   refine rd_t rfl rfl (t_alloc _ ze58 fun b7 => rd_t rfl rfl (t_alloc _ ze58 fun b8 => rd_t rfl rfl (t_storeC (y' := (y3 : GTyp)) ty58 rfl rfl (fun _ _ h => h) .here rfl (rd_upd (upd_imm 9 .here rfl) (rd_t rfl rfl (t_storeC (y' := (y4 : GTyp)) ty58 rfl rfl (fun _ _ h => h) .here rfl ?_))))))
   exact rd_upd (upd_imm 10 .here rfl) (rd_nil (hJ2 _ () h _ (join_imp 14 rfl rfl (mod_cons (j := 9) rfl (fun _ _ h => h) (mod_cons (j := 10) rfl (fun _ _ h => h) mod_nil)) .nil)))

theorem law21_alike_grp_w : ∀ n, law21_alike_C (law21_alike n)
 | 0 => fun h => (by cases h)
 | n + 1 => law21_alike_w0 (law21_alike_grp_w n)
theorem law21_alike_w (n : Nat) : law21_alike_C (law21_alike n) := (law21_alike_grp_w n)
end Go.Proofs.YtajbipkppngccaaDoor


namespace Go.Proofs.YtajbipkppngccaaDoor
open Go.Sy
set_option maxRecDepth 4000
theorem law21_ExtendOrder_w : ∀ {a_first : Str} {a_second : Str} {a_third : Str} {r : Bool}, law21_ExtendOrder a_first a_second a_third = some r → Ctr Tryd.prog 4 [isv (a_first), isv (a_second), isv (a_third)] [] (fun R H => R = oneOf [isv (r)] ∧ H = []) := by
 intro a_first a_second a_third r h
 unfold law21_ExtendOrder at h
 refine spec_intro Tryd.func4 rfl (by decide +kernel) (by rfl) fun w0 S0 hT => ?_
 refine wsr (oA rfl (rnf (wsr (oM rfl ?_))))
 refine cal_inv h fun y1 hy1 h => oT (t_call (oghamplay_Table_w hy1) hT (.same rfl .nil) .nil (fun R H' hR => ?_))
 obtain ⟨rfl, rfl⟩ := hR
 refine oM rfl (oV (v_extract rfl rfl) (oV (v_extract rfl rfl) (oT (t_alloc _ ze26 fun b2 => oT (t_storeC (y' := (y1.1 : GTab)) ty26 rfl rfl (fun _ _ h => h) .here rfl ?_)))))
 refine rl_upd (upd_imm 7 .here rfl) (oA rfl (rnf (wsr (oM rfl ?_))))
 refine cal_inv h fun y3 hy3 h => oT (t_call (oghamplay_Table_w hy3) hT (.same rfl .nil) .nil (fun R H' hR => ?_))
 obtain ⟨rfl, rfl⟩ := hR
 refine oM rfl (oV (v_extract rfl rfl) (oV (v_extract rfl rfl) (oT (t_alloc _ ze26 fun b4 => oT (t_storeC (y' := (y3.1 : GTab)) ty26 rfl rfl (fun _ _ h => h) .here rfl ?_)))))
 refine rl_upd (upd_imm 9 .here rfl) (oA rfl (rnf (wsr (oM rfl ?_))))
 refine cal_inv h fun y5 hy5 h => oT (t_call (oghamplay_Table_w hy5) hT (.same rfl .nil) .nil (fun R H' hR => ?_))
 obtain ⟨rfl, rfl⟩ := hR
 refine oM rfl (oV (v_extract rfl rfl) (oV (v_extract rfl rfl) (oT (t_alloc _ ze26 fun b6 => oT (t_storeC (y' := (y5.1 : GTab)) ty26 rfl rfl (fun _ _ h => h) .here rfl ?_)))))
 refine rl_upd (upd_imm 11 .here rfl) (oA rfl (rnf (w_seq (wsr ?_))))
 refine oM rfl (oV (v_not rfl) (oM rfl (rl_j (jb 46) je .nil h 3 rfl (fun q7 g7 h => ?_) (fun J8 h hJ8 => ?_))))
 ·
  refine oM rfl (rl_j (jb 50) je .nil h 3 rfl (fun q10 g10 h => ?_) (fun J11 h hJ11 => ?_))
  ·
   refine rnf (w_condM h rfl (fun _ h => ?_) (fun _ h => ?_))
   ·
    refine wsr (cal_inv h fun y13 hy13 h => oT (t_call (law21_awake_w hy13) hT .nil .nil (fun R H' hR => ?_)))
    obtain ⟨rfl, rfl⟩ := hR
    refine oA rfl (rnf (w_ret (ret_nxt (ret_post (.tmp rfl .nil) .nil ?_))))
    obtain rfl := Option.some.inj h
    exact ⟨rfl, rfl⟩
   ·
    refine wkf (wsr (oV (v_loadI ty26 rfl) (oV (v_loadI ty26 rfl) (cal_inv h fun y14 hy14 h => ?_))))
    refine oT (t_call (extend_May_w hy14) hT (.same rfl (.same rfl .nil)) .nil (fun R H' hR => ?_))
    obtain ⟨rfl, rfl⟩ := hR
    refine oM rfl (oV (v_extract rfl rfl) (oV (v_extract rfl rfl) (oA rfl (oA rfl ?_))))
    refine rnf (wsr (oV (v_loadI ty26 rfl) (oV (v_loadI ty26 rfl) (cal_inv h fun y15 hy15 h => ?_))))
    refine oT (t_call (extend_May_w hy15) hT (.same rfl (.same rfl .nil)) .nil (fun R H' hR => ?_))
    obtain ⟨rfl, rfl⟩ := hR
    refine oM rfl (oV (v_extract rfl rfl) (oV (v_extract rfl rfl) (oA rfl (oA rfl ?_))))
    refine rnf (wsr (oV (v_loadI ty26 rfl) (oV (v_loadI ty26 rfl) (cal_inv h fun y16 hy16 h => ?_))))
    refine oT (t_call (extend_May_w hy16) hT (.same rfl (.same rfl .nil)) .nil (fun R H' hR => ?_))
    obtain ⟨rfl, rfl⟩ := hR
    refine oM rfl (oV (v_extract rfl rfl) (oV (v_extract rfl rfl) (oA rfl (oA rfl ?_))))
    refine rnf (wsr (oV (v_loadI ty26 rfl) (oV (v_loadI ty26 rfl) (cal_inv h fun y17 hy17 h => ?_))))
    refine oT (t_call (extend_May_w hy17) hT (.same rfl (.same rfl .nil)) .nil (fun R H' hR => ?_))
    obtain ⟨rfl, rfl⟩ := hR
    refine oM rfl (oV (v_extract rfl rfl) (oV (v_extract rfl rfl) (oA rfl (oA rfl ?_))))
    refine rnf (wsr (oV (v_loadI ty26 rfl) (oV (v_loadI ty26 rfl) (cal_inv h fun y18 hy18 h => ?_))))
    refine oT (t_call (extend_May_w hy18) hT (.same rfl (.same rfl .nil)) .nil (fun R H' hR => ?_))
    obtain ⟨rfl, rfl⟩ := hR
    refine oM rfl (oV (v_extract rfl rfl) (oV (v_extract rfl rfl) (oA rfl (oA rfl ?_))))
    refine rnf (w_seq (wsr (cal_inv h fun y19 hy19 h => oT (t_call (law21_awake_w hy19) hT .nil .nil (fun R H' hR => ?_)))))
    obtain ⟨rfl, rfl⟩ := hR
    refine oV (v_not rfl) (oM rfl (rl_j (jb 87) je .nil h 3 rfl (fun q20 g20 h => ?_) (fun J21 h hJ21 => ?_)))
    ·
     refine oM rfl (rl_j (jb 99) je .nil h 11 rfl (fun q23 g23 h => ?_) (fun J24 h hJ24 => ?_))
     ·
      refine rnf (w_condM h rfl (fun _ h => ?_) (fun _ h => ?_))
      ·
       refine wsr (oA rfl (rnf (w_ret (ret_nxt ?_))))
       refine ret_post (.tmp rfl .nil) .nil ?_
       obtain rfl := Option.some.inj h
       exact ⟨rfl, rfl⟩
      ·
       refine wkf (w_seq (wsr (oM rfl (oV (v_neq rfl rfl) ?_))))
       refine oM rfl (rl_j (jb 105) je .nil h 3 rfl (fun q32 g32 h => ?_) (fun J33 h hJ33 => ?_))
       ·
        refine rnf (w_condM h rfl (fun _ h => ?_) (fun _ h => ?_))
        ·
         refine wsr (oA rfl (rnf (w_ret (ret_nxt ?_))))
         refine ret_post (.tmp rfl .nil) .nil ?_
         obtain rfl := Option.some.inj h
         exact ⟨rfl, rfl⟩
        ·
         refine wkf (w_seq (wsr (oA rfl (rnf ?_))))
         refine w_block (w_lp (ι := Int) (γ := Unit) (fun q35 g35 => [(23, isv (q35))]) (fun q35 g35 => []) h () (mod_cons (j := 23) rfl (fun _ _ h => h) mod_nil) .nil (fun L36 q35 g35 Q53 h hL36 eL36 rL36 => w_seq (wsr (oM rfl ?_))))
         refine oV (v_fi rfl GTab.f1 fd26_1 rfl (z := y1.1.names)) (oV (v_loadI ty22 rfl) (oV (v_ln (l := y1.1.names) rfl (fun _ _ h => h) sl22) (oV (v_lss rfl rfl) (rnf ?_))))
         refine w_condM h rfl (fun _ h => ?_) (fun _ h => ?_)
         ·
          refine wkf (w_seq (w_block (w_seq (w_regionD (.v 0 (.v 1 (.v 2 (.v 3 (.v 4 (.v 5 (.v 6 (.v 7 (.v 8 (.v 9 (.v 10 (.t 11 (.v 12 (.v 13 .nil)))))))))))))) moOrd (by kernel_rfl) ?_))))
          refine rd_v rfl (v_fi rfl GTab.f2 fd26_2 rfl (z := y1.1.roots)) (rd_v rfl (v_loadI ty23 rfl) (rvm rfl rfl (cal_inv h fun y45 hy45 h => rd_v rfl (v_ix (l := y1.1.roots) rfl (fun _ _ h => h) rfl sl23 hy45) ?_)))
          refine rd_v rfl (v_loadI ty3 rfl) (rd_v rfl (v_loadI ty26 rfl) (rd_v rfl (v_fi rfl GTab.f1 fd26_1 rfl (z := y1.1.names)) (rd_v rfl (v_loadI ty22 rfl) (rvm rfl rfl ?_))))
          refine cal_inv h fun y46 hy46 h => rd_v rfl (v_ix (l := y1.1.names) rfl (fun _ _ h => h) rfl sl22 hy46) (rd_v rfl (v_loadI ty9 rfl) (cal_inv h fun y47 hy47 h => rd_t rfl rfl (t_call (r10_Find_w hy47) hT (.same rfl (.same rfl .nil)) .nil (fun R H' hR => ?_))))
          obtain ⟨rfl, rfl⟩ := hR
          refine rd_v rfl (v_assign rfl) (rd_v rfl (v_assign rfl) (rd_nil (fin_nxt (wsr ?_))))
          refine oM rfl (oV (v_lss rfl rfl) (oM rfl (rl_j (jb 134) je .nil h 7 rfl (fun q48 g48 h => ?_) (fun J49 h hJ49 => ?_))))
          ·
           refine rnf (w_condM h rfl (fun _ h => ?_) (fun _ h => ?_))
           ·
            refine wsr (oA rfl (rnf (w_ret (ret_block ?_))))
            refine ret_nxt (rL36 _ (ret_block (ret_nxt (ret_post (.tmp rfl .nil) .nil ?_))))
            obtain rfl := Option.some.inj h
            exact ⟨rfl, rfl⟩
           ·
            refine w_skip (fin_block (fin_nxt (w_region (oM rfl ?_))))
            exact ck_inv h fun q52 h => oV (v_add rfl rfl q52) (oA rfl (rl_nil (hL36 _ () h _ (ji 27 23 rfl rfl rfl))))
          ·
           refine rl_condM (j := 127) h rfl (fun g50 h => ?_) (fun g50 h => ?_)
           ·
            refine oP 127 rfl rfl g50 (oP 127 rfl rfl g50 (oP 127 rfl rfl g50 (oP 127 rfl rfl g50 (oP 127 rfl rfl g50 ?_))))
            exact oP 127 rfl rfl g50 (oV (v_pick_t rfl g50 rfl) (hJ49 _ () h _ (ji 7 134 rfl rfl rfl)))
           ·
            refine oK 127 rfl rfl rfl g50 (v_loadI ty26 rfl) (oK 127 rfl rfl rfl g50 (v_move rfl) (oK 127 rfl rfl rfl g50 (v_loadI ty26 rfl) (oK 127 rfl rfl rfl g50 (v_move rfl) (cal_inv h fun y51 hy51 h => ?_))))
            refine op_take rfl rfl (dj := 127) rfl g50 (t_call (law21_alike_w fuel hy51) hT (.same rfl (.same rfl (.same rfl (.same rfl .nil)))) .nil (fun R H' hR => ?_))
            obtain ⟨rfl, rfl⟩ := hR
            exact oK 127 rfl rfl rfl g50 (v_not rfl) (oV (v_pick_f rfl g50 rfl) (hJ49 _ () h _ (ji 7 134 rfl rfl rfl)))
         ·
          refine w_exit (exi_nxt (eL36 _ _ (exi_block (fin_nxt ?_))))
          refine wsr (oV (v_fi rfl GTab.f1 fd26_1 rfl (z := y1.1.names)) (oV (v_loadI ty22 rfl) (oV (v_ln (l := y1.1.names) rfl (fun _ _ h => h) sl22) (oV (v_fi rfl GTab.f1 fd26_1 rfl (z := y3.1.names)) ?_))))
          refine oV (v_loadI ty22 rfl) (oV (v_ln (l := y3.1.names) rfl (fun _ _ h => h) sl22) (oV (v_eql rfl rfl) (oA rfl (rnf ?_))))
          refine w_ret (ret_post (.tmp rfl .nil) .nil ?_)
          obtain rfl := Option.some.inj h
          exact ⟨rfl, rfl⟩
       ·
        refine rl_condM (j := 102) h rfl (fun g34 h => ?_) (fun g34 h => ?_)
        ·
         exact oP 102 rfl rfl g34 (oP 102 rfl rfl g34 (oV (v_pick_t rfl g34 rfl) (hJ33 _ () h _ (ji 3 105 rfl rfl rfl))))
        ·
         exact oK 102 rfl rfl rfl g34 (v_move rfl) (oK 102 rfl rfl rfl g34 (v_neq rfl rfl) (oV (v_pick_f rfl g34 rfl) (hJ33 _ () h _ (ji 3 105 rfl rfl rfl))))
     ·
      refine rl_condM (j := 88) h rfl (fun g25 h => ?_) (fun g25 h => ?_)
      ·
       refine oP 88 rfl rfl g25 (oP 88 rfl rfl g25 (oP 88 rfl rfl g25 (op_passU rfl (dj := 91) rfl (op_passU rfl (dj := 91) rfl ?_))))
       refine oP 88 rfl rfl g25 (oP 88 rfl rfl g25 (op_passU rfl (dj := 95) rfl (op_passU rfl (dj := 95) rfl (oP 88 rfl rfl g25 ?_))))
       exact oV (v_pick_t rfl g25 rfl) (hJ24 _ () h _ (ji 11 99 rfl rfl rfl))
      ·
       refine oK 88 rfl rfl rfl g25 (v_move rfl) (oK 88 rfl rfl rfl g25 (v_eql rfl rfl) (oK 88 rfl rfl rfl g25 (v_move rfl) (rl_j (jb 94) je .nil h 3 rfl (fun q26 g26 h => ?_) (fun J27 h hJ27 => ?_))))
       ·
        refine oK 88 rfl rfl rfl g25 (v_move rfl) (rl_j (jb 98) je .nil h 3 rfl (fun q29 g29 h => ?_) (fun J30 h hJ30 => ?_))
        ·
         exact oV (v_pick_f rfl g25 rfl) (hJ24 _ () h _ (ji 7 99 rfl rfl rfl))
        ·
         refine rl_condM (j := 95) h rfl (fun g31 h => ?_) (fun g31 h => ?_)
         ·
          exact oK 95 rfl rfl rfl g31 (v_move rfl) (oK 95 rfl rfl rfl g31 (v_neq rfl rfl) (oK 88 rfl rfl rfl g25 (v_pick_t rfl g31 rfl) (hJ30 _ () h _ (ji 3 98 rfl rfl rfl))))
         ·
          exact oP 95 rfl rfl g31 (oP 95 rfl rfl g31 (oK 88 rfl rfl rfl g25 (v_pick_f rfl g31 rfl) (hJ30 _ () h _ (ji 3 98 rfl rfl rfl))))
       ·
        refine rl_condM (j := 91) h rfl (fun g28 h => ?_) (fun g28 h => ?_)
        ·
         exact oK 91 rfl rfl rfl g28 (v_move rfl) (oK 91 rfl rfl rfl g28 (v_eql rfl rfl) (oK 88 rfl rfl rfl g25 (v_pick_t rfl g28 rfl) (hJ27 _ () h _ (ji 3 94 rfl rfl rfl))))
        ·
         exact oP 91 rfl rfl g28 (oP 91 rfl rfl g28 (oK 88 rfl rfl rfl g25 (v_pick_f rfl g28 rfl) (hJ27 _ () h _ (ji 3 94 rfl rfl rfl))))
    ·
     refine rl_condM (j := 84) h rfl (fun g22 h => ?_) (fun g22 h => ?_)
     ·
      exact oP 84 rfl rfl g22 (oP 84 rfl rfl g22 (oV (v_pick_t rfl g22 rfl) (hJ21 _ () h _ (ji 3 87 rfl rfl rfl))))
     ·
      exact oK 84 rfl rfl rfl g22 (v_move rfl) (oK 84 rfl rfl rfl g22 (v_neq rfl rfl) (oV (v_pick_f rfl g22 rfl) (hJ21 _ () h _ (ji 3 87 rfl rfl rfl))))
  ·
   refine rl_condM (j := 47) h rfl (fun g12 h => ?_) (fun g12 h => ?_)
   ·
    exact oP 47 rfl rfl g12 (oP 47 rfl rfl g12 (oV (v_pick_t rfl g12 rfl) (hJ11 _ () h _ (ji 3 50 rfl rfl rfl))))
   ·
    exact oK 47 rfl rfl rfl g12 (v_move rfl) (oK 47 rfl rfl rfl g12 (v_not rfl) (oV (v_pick_f rfl g12 rfl) (hJ11 _ () h _ (ji 3 50 rfl rfl rfl))))
 ·
  refine rl_condM (j := 43) h rfl (fun g9 h => ?_) (fun g9 h => ?_)
  ·
   exact oP 43 rfl rfl g9 (oP 43 rfl rfl g9 (oV (v_pick_t rfl g9 rfl) (hJ8 _ () h _ (ji 3 46 rfl rfl rfl))))
  ·
   exact oK 43 rfl rfl rfl g9 (v_move rfl) (oK 43 rfl rfl rfl g9 (v_not rfl) (oV (v_pick_f rfl g9 rfl) (hJ8 _ () h _ (ji 3 46 rfl rfl rfl))))

end Go.Proofs.YtajbipkppngccaaDoor


namespace Go.Sy
open Go.Shelf Go.Lib Go.ChangeShapes Go.WideShapes Go.ChangeAt Go.RowKit

theorem cell_sub {W w : World} {a : Addr} {v : Value} (h : W.cell? a = some v) (hs : (snap W).sub w) : w.cell? a = some v := by
  obtain ⟨h1, c, h2, h3⟩ := cell_snap h
  obtain ⟨c', T, fr, h4, h5⟩ := hs _ _ h2
  unfold World.cell?
  rw [h4]
  simp only [h1]
  obtain ⟨t, ht⟩ := h5
  rw [← Array.getElem?_toList, ← ht, List.getElem?_append_left (by
    rcases Nat.lt_or_ge a.off c.length with h6 | h6
    · exact h6
    · rw [List.getElem?_eq_none h6] at h3; cases h3)]
  exact h3
theorem tabs_of {P : Program} {g1 g2 : Nat} {W : World} (h : Lib.Utf8Tabs g1 g2 W) (e1 : P.globals.findIdx? (·.name == "unicode/utf8.first") = some g1) (e2 : P.globals.findIdx? (·.name == "unicode/utf8.acceptRanges") = some g2) : Tabs P (snap W) := by
  intro w hw k1 k2 h1 h2
  rw [e1] at h1; cases h1
  rw [e2] at h2; cases h2
  exact ⟨fun c hc => cell_sub (h.1 c hc) hw, fun i hi => ⟨cell_sub (h.2 i hi).1 hw, cell_sub (h.2 i hi).2 hw⟩⟩

theorem law_laid {H : Type} {enc : TypeId × Value → H} {a : Assume} {C : Checked} {os : Os} {f : FuncId} {fn : Func} {s : OpenSpec} {F : Stop.Interp} {B : TypeId} {apart fresh handsOn : Bool} {laid : List (String × DataW Unit)}
    (own : ownKnob C.prog.godebug = none) (started : os.Started) (noInit : C.prog.inits.idxOf? f = none) (hfn : C.prog.funcs[f]? = some fn)
    (witness : ∃ (w : World) (tape : Tape) (i : Input), w.os = os ∧ (w.forCall tape i).Shaped C.prog ∧ i.vars = [] ∧ Input.okWide C.prog (w.forCall tape i) .any w.heap.size f i ∧
      s.preRow enc C.prog fn [] apart laid (w.forCall tape i).memory i.args ∧ a.holds C.prog (lone (Frame.enter C.prog f i.args .normal) [] (w.forCall tape i)))
    (hl : laidOutB C.prog = true) (hr : (fn.params.toList.all fun t => C.prog.readableRec t && decide (t < C.prog.types.size)) = true) (hv : s.vars = []) (hres : fn.resultTypes = #[B]) (hB : C.prog.underlying B = some .bool)
    (hs : ∀ ds : List (DataW H), ds.length = fn.params.size → (s.at F).fn H ds = { results := [.lit (.bool true)], args := ds })
    (tabs : ∀ W, laidMetH C.prog laid W → Tabs C.prog (snap W))
    (run : ∀ (W : World) (vs : List Value) (ds : List (DataW H)) (p : List MemPlace), Tabs C.prog (snap W) → DataW.TrodAll enc C.prog W 0 (fun _ => true) true fn.params.toList vs ds p → (∀ k ∈ DataW.weightsEach C.prog fn.params.toList ds, k ≤ reachBytes) → (∃ base, ∀ (j : Nat) t v, fn.params.toList[j]? = some t → vs[j]? = some v → Value.okWide C.prog W .any base t v) →
      Calls C.prog f vs.toArray W fun e W' => e = .returned (.bool true) ∧ Keep [] W W') :
    ReturnsInHanded a C os f .any (s.preRow enc C.prog fn [] apart laid) ((s.at F).post enc C.prog fn apart fresh handsOn false) := by
  refine returnsInHanded_of_row own started noInit hfn witness ?_
  intro W base args ds gs before hval hW _ _ hwt hL _ _
  have hlt := hW.lt
  have hW0 := hW
  obtain ⟨p, q, hA, hV, rfl, hfz, hnd⟩ := hW
  rw [hv] at hV
  have hgs : gs = [] ∧ q = [] := by
    cases gs with
    | nil => exact ⟨rfl, hV⟩
    | cons _ _ => exact hV.elim
  obtain ⟨rfl, rfl⟩ := hgs
  have hlen : ds.length = fn.params.size := by
    have : ∀ {ts : List TypeId} {vs : List Value} {ds : List (DataW H)} {ps : List MemPlace}, DataW.TrodAll enc C.prog W 0 (fun _ => true) true ts vs ds ps → ds.length = ts.length := by
      intro ts
      induction ts with
      | nil => intro vs ds ps h; cases vs <;> cases ds <;> simp_all [DataW.TrodAll]
      | cons t ts ih =>
        intro vs ds ps h
        cases vs <;> cases ds <;> simp only [DataW.TrodAll] at h
        obtain ⟨_, _, _, h2, _⟩ := h
        simp [ih h2]
    simpa using this hA
  have hvt' : s.bare.plain.varTypes C.prog = [] := by
    simp [OpenSpec.bare, ChangeSpec.plain, DataSpec.varTypes, hv]
  rw [hvt', List.append_nil, List.append_nil] at hwt
  have hrun := run W args.toList ds p (tabs W hL) hA (fun k hk => by simpa using List.all_eq_true.1 hwt k hk) ⟨base, fun j t v hj hv' => hval j t v (by simpa using hj) (by simpa using hv')⟩
  refine hrun.mono fun e W' ⟨he, hk⟩ => ?_
  subst he
  have hb := hk.below
  refine ⟨_, rfl, ds, [], p ++ [], [], p, [], hW0, ?_, ?_, ?_, hb.frame _, fun h => by cases h⟩
  · rw [List.append_nil, hs ds hlen, hres]
    exact trodAll_mk1 (shut_bool hB true)
  · rw [List.append_nil, hs ds hlen]
    exact trodAll_stays hl hb hr hA (fun x hx => hlt x (List.mem_append_left _ hx)) (fun x hx => by simpa using hlt x (List.mem_append_left _ hx))
  · show DataW.TrodVars enc C.prog W' _ s.vars _ _
    rw [hv]
    rw [List.append_nil, hs ds hlen]
    exact rfl
end Go.Sy


namespace Go.Proofs.YtajbipkppngccaaDoor
open Go.Sy Go.Shelf Go.Lib Go.ChangeShapes Go.WideShapes Go.ChangeAt Go.RowKit

theorem own : ownKnob Tryd.prog.godebug = none := by kernel_rfl
theorem laidOut : laidOutB Tryd.prog = true := by kernel_rfl

noncomputable def laidWorld (os : Os) : World :=
  let w0 := World.holding Tryd.prog os ⟨#[], #[], []⟩
  let put (h : Array Obj) (g : Nat) (cs : Array Value) : Array Obj := h.modify g fun
    | .cells _ t frozen => .cells cs t frozen
    | o => o
  let h1 := put w0.heap 0 (Lib.firstTab.map fun z => Value.int .u8 z).toArray
  let h2 := put h1 1 ((List.range 16).flatMap fun i => [Value.int .u8 (Lib.accLo i), Value.int .u8 (Lib.accHi i)]).toArray
  { w0 with heap := h2 }
def laidTwo : List (String × DataW Unit) := [("unicode/utf8.acceptRanges", Lib.acceptData), ("unicode/utf8.first", Lib.firstData)]
theorem laid_met (os : Os) (args : Array Value) : laidMet Tryd.prog laidTwo ((laidWorld os).forCall (fun _ _ => 0) ⟨#[], args, []⟩).memory :=
  (LaidIn.of_run [0, 1] 8 (by kernel_rfl) (by kernel_rfl) (by kernel_rfl) (by kernel_rfl)).met
theorem tabs_laid (W : World) (h : laidMetH Tryd.prog laidTwo W) : Tabs Tryd.prog (snap W) :=
  tabs_of (utf8Tabs_of_readsT (U8Types.of196 valLays) ⟨by kernel_rfl, by kernel_rfl, by kernel_rfl, by kernel_rfl, by kernel_rfl, by kernel_rfl, by kernel_rfl⟩ (Lib.laidMet.reads h (.tail _ (.head _))) (Lib.laidMet.reads h (.head _))) valLays.g3 valLays.g4
end Go.Proofs.YtajbipkppngccaaDoor

