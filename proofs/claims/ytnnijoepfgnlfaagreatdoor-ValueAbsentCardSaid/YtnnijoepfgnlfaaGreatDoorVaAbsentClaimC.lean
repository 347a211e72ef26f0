/- Walks, printed by mill.py. -/
import Derived.Test.YtnnijoepfgnlfaaGreatDoorVaAbsentClaimA
import Derived.Test.YtnnijoepfgnlfaaGreatDoorVaAbsentClaimB
set_option linter.unusedVariables false
set_option linter.unusedSimpArgs false

namespace Go.Proofs.YtnnijoepfgnlfaaGreatDoor
open Go.Sy
set_option maxRecDepth 4000
theorem r05_Whole_w : ∀ {a_s : Str} {r : Int}, r05_Whole a_s = some r → Ctr Tryz.prog 145 [isv (a_s)] [] (fun R H => R = oneOf [isv (r)] ∧ H = []) := by
 intro a_s r h
 unfold r05_Whole at h
 refine spec_intro Tryz.func145 rfl (by decide +kernel) (by rfl) fun w0 S0 hT => ?_
 refine wsr (oA rfl (rnf (wsr (oM rfl ?_))))
 refine cal_inv h fun y1 hy1 h => oV (v_idxS y1 st9 rfl rfl hy1) (oV (v_eqA eq5 rfl rfl) (oA rfl (rnf ?_)))
 refine w_seq (wsr (oM rfl (rnf (w_J (ι := Str) (γ := Unit) (fun q2 g2 => [(0, isv (q2))]) (fun q2 g2 => []) .nil h (fun q2 g2 h => ?_) (fun J3 h hJ3 => ?_)))))
 ·
  refine wsr (oA rfl (rnf (w_seq (wsr ?_))))
  refine oA rfl (rnf (w_block (w_lp (ι := UInt64 × Int) (γ := Unit) (fun q5 g5 => [(4, isv (q5.1)), (5, isv (q5.2))]) (fun q5 g5 => []) h () (mod_cons (j := 4) rfl (fun _ _ h => h) (mod_cons (j := 5) rfl (fun _ _ h => h) mod_nil)) .nil (fun L6 q5 g5 Q19 h hL6 eL6 rL6 => w_seq ?_))))
  refine wsr (oM rfl (oM rfl (oV (v_lenS st9 rfl) (oV (v_lss rfl rfl) ?_))))
  refine rnf (w_condM h rfl (fun _ h => ?_) (fun _ h => ?_))
  ·
   refine wkf (w_seq (w_block (w_region (oM rfl ?_))))
   refine oV (v_mul64 rfl rfl) (oM rfl (oM rfl (cal_inv h fun y13 hy13 h => oV (v_idxS y13 st9 rfl rfl hy13) ?_)))
   refine oV (v_sub8 rfl rfl) (oV (v_u8u64 Tryz.underlying5 Tryz.underlying41 rfl) (oV (v_add64 rfl rfl) (oA rfl (rl_nil ?_))))
   refine fin_block (fin_nxt (w_region (oM rfl (ck_inv h fun q14 h => ?_))))
   exact oV (v_add rfl rfl q14) (oA rfl (rl_nil (hL6 _ () h _ (join_imp 18 rfl rfl (mod_cons (j := 4) rfl (fun _ _ h => h) (mod_cons (j := 5) rfl (fun _ _ h => h) mod_nil)) .nil))))
  ·
   refine w_exit (exi_nxt (eL6 _ _ (exi_block (fin_nxt ?_))))
   refine w_seq (wsr (oM rfl (rnf (w_condM h rfl (fun _ h => ?_) (fun _ h => ?_)))))
   ·
    refine wsr (oM rfl (oV (v_sub64 rfl rfl) (ck_inv h fun q15 h => oV (v_u64i Tryz.underlying41 Tryz.underlying2 rfl q15) ?_)))
    refine ck_inv h fun q16 h => oV (v_neg rfl q16) (ck_inv h fun q17 h => oV (v_sub rfl rfl q17) (oA rfl ?_))
    refine rnf (w_ret (ret_nxt (ret_post (.tmp rfl .nil) .nil ?_)))
    obtain rfl := Option.some.inj h
    exact ⟨rfl, rfl⟩
   ·
    refine wkf (wsr (oM rfl (ck_inv h fun q18 h => oV (v_u64i Tryz.underlying41 Tryz.underlying2 rfl q18) ?_)))
    refine oA rfl (rnf (w_ret (ret_post (.tmp rfl .nil) .nil ?_)))
    obtain rfl := Option.some.inj h
    exact ⟨rfl, rfl⟩
 ·
  refine w_condM h rfl (fun _ h => ?_) (fun _ h => ?_)
  ·
   refine w_region (oM rfl (asd_inv h fun q4 h => oV (v_slS st9 rfl (.inr ⟨_, rfl, rfl⟩) (.inl ⟨rfl, rfl⟩) q4.1 q4.2.1 q4.2.2) (oA rfl ?_)))
   exact rl_nil (hJ3 _ () h _ (ji 3 0 rfl rfl rfl))
  ·
   exact w_skip (hJ3 _ () h _ (ji 0 0 rfl rfl rfl))


theorem r05_parser_number_w : ∀ {a_x : GPar} {b_a_x : Nat} {t_a_x1 : Tok} {t_a_x2 : Tok} {v_a_x3 : Vt} {r : Int × GPar}, r05_parser_number a_x = some r → Ctr Tryz.prog 106 [ptrv b_a_x (Fld.id ((List GTok) × Int × (Str × Int × (TList Str) × (TList Int) × Vh) × Int × Int))] [boxE b_a_x ((a_x.l, a_x.at_, (a_x.m.name, a_x.m.tagging, (TList.mk t_a_x1 a_x.m.names), (TList.mk t_a_x2 a_x.m.types), (Vh.mk v_a_x3 a_x.m.nodes.length)), a_x.e, a_x.p) : ((List GTok) × Int × (Str × Int × (TList Str) × (TList Int) × Vh) × Int × Int)), tokE t_a_x1, tokE t_a_x2, vecE v_a_x3 (a_x.m.nodes : List GNode)] (fun R H => ∃ u1 : Tok, ∃ u2 : Tok, R = oneOf [isv (r.1)] ∧ H = [boxE b_a_x ((r.2.l, r.2.at_, (r.2.m.name, r.2.m.tagging, (TList.mk u1 r.2.m.names), (TList.mk u2 r.2.m.types), (Vh.mk v_a_x3 r.2.m.nodes.length)), r.2.e, r.2.p)), tokE u1, tokE u2, vecE v_a_x3 (r.2.m.nodes)]) := by
 intro a_x b_a_x t_a_x1 t_a_x2 v_a_x3 r h
 unfold r05_parser_number at h
 refine spec_intro Tryz.func106 rfl (by decide +kernel) (by rfl) fun w0 S0 hT => ?_
 refine wsr (oA rfl (rnf (wsr (oM rfl ?_))))
 refine cal_inv h fun y4 hy4 h => oT (t_call (r05_parser_kind_w hy4) hT (.same rfl (.same rfl .nil)) (.cons .here (.cons .here (.cons .here (.cons .here .nil)))) (fun R H' hR => ?_))
 obtain ⟨t5, t6, rfl, rfl⟩ := hR
 refine oA rfl (rnf (w_seq (wsr (oM rfl ?_))))
 refine oV (v_eqA eq9 rfl rfl) (rnf (w_condM h rfl (fun _ h => ?_) (fun _ h => ?_)))
 ·
  refine wsr (oA rfl (rnf (w_ret (ret_nxt ?_))))
  refine ret_post (.tmp rfl .nil) (.cons .here (.cons .here (.cons .here (.cons .here .nil)))) ?_
  obtain rfl := Option.some.inj h
  exact ⟨t5, t6, rfl, rfl⟩
 ·
  refine wkf (wsr (oM rfl (cal_inv h fun y7 hy7 h => oT (t_call (r05_Whole_w hy7) hT (.same rfl .nil) .nil (fun R H' hR => ?_)))))
  obtain ⟨rfl, rfl⟩ := hR
  refine oA rfl (rnf (w_ret (ret_post (.tmp rfl .nil) (.cons .here (.cons .here (.cons .here (.cons .here .nil)))) ?_)))
  obtain rfl := Option.some.inj h
  exact ⟨t5, t6, rfl, rfl⟩


theorem r05_parser_bounds_w : ∀ {a_x : GPar} {b_a_x : Nat} {t_a_x1 : Tok} {t_a_x2 : Tok} {v_a_x3 : Vt} {r : GCon × GPar}, r05_parser_bounds a_x = some r → Ctr Tryz.prog 147 [ptrv b_a_x (Fld.id ((List GTok) × Int × (Str × Int × (TList Str) × (TList Int) × Vh) × Int × Int))] [boxE b_a_x ((a_x.l, a_x.at_, (a_x.m.name, a_x.m.tagging, (TList.mk t_a_x1 a_x.m.names), (TList.mk t_a_x2 a_x.m.types), (Vh.mk v_a_x3 a_x.m.nodes.length)), a_x.e, a_x.p) : ((List GTok) × Int × (Str × Int × (TList Str) × (TList Int) × Vh) × Int × Int)), tokE t_a_x1, tokE t_a_x2, vecE v_a_x3 (a_x.m.nodes : List GNode)] (fun R H => ∃ u1 : Tok, ∃ u2 : Tok, R = oneOf [isv (r.1)] ∧ H = [boxE b_a_x ((r.2.l, r.2.at_, (r.2.m.name, r.2.m.tagging, (TList.mk u1 r.2.m.names), (TList.mk u2 r.2.m.types), (Vh.mk v_a_x3 r.2.m.nodes.length)), r.2.e, r.2.p)), tokE u1, tokE u2, vecE v_a_x3 (r.2.m.nodes)]) := by
 intro a_x b_a_x t_a_x1 t_a_x2 v_a_x3 r h
 unfold r05_parser_bounds at h
 refine spec_intro Tryz.func147 rfl (by decide +kernel) (by rfl) fun w0 S0 hT => ?_
 refine wsr (oT (t_alloc _ ze83 fun b4 => rnf (wsr (oV (v_build (z := (GCon.mk true false false false (0 : Int) (0 : Int))) rfl bu83 ze83 (.cons GCon.f0 fd83_0 rfl (fun _ _ h => h) .nil)) ?_))))
 refine oT (t_alloc _ ze83 fun b5 => oT (t_storeC (y' := ((GCon.mk true false false false (0 : Int) (0 : Int)) : GCon)) ty83 rfl rfl (fun _ _ h => h) .here rfl (rnf (w_seq (wsr ?_)))))
 refine oM rfl (cal_inv h fun y6 hy6 h => oT (t_call (r05_parser_is_w hy6) hT (.same rfl (.same rfl .nil)) (.cons (.there (.there .here)) (.cons (.there (.there .here)) (.cons (.there (.there .here)) (.cons (.there (.there .here)) .nil)))) (fun R H' hR => ?_)))
 obtain ⟨t7, t8, rfl, rfl⟩ := hR
 refine oV (v_not rfl) (rnf (w_J (ι := GPar × GCon) (γ := Tok × Tok) (fun q9 g9 => []) (fun q9 g9 => [boxE b_a_x ((q9.1.l, q9.1.at_, (q9.1.m.name, q9.1.m.tagging, (TList.mk g9.1 q9.1.m.names), (TList.mk g9.2 q9.1.m.types), (Vh.mk v_a_x3 q9.1.m.nodes.length)), q9.1.e, q9.1.p) : ((List GTok) × Int × (Str × Int × (TList Str) × (TList Int) × Vh) × Int × Int)), tokE g9.1, tokE g9.2, vecE v_a_x3 (q9.1.m.nodes : List GNode), boxE b5 (q9.2 : GCon)]) (.cons .here (.cons (.there (.there (.there .here))) (.cons .here (.cons .here (.cons .here .nil))))) h (fun q9 g9 h => ?_) (fun J10 h hJ10 => ?_)))
 ·
  refine w_seq (w_J (ι := GPar × GCon) (γ := Tok × Tok) (fun q14 g14 => []) (fun q14 g14 => [boxE b_a_x ((q14.1.l, q14.1.at_, (q14.1.m.name, q14.1.m.tagging, (TList.mk g14.1 q14.1.m.names), (TList.mk g14.2 q14.1.m.types), (Vh.mk v_a_x3 q14.1.m.nodes.length)), q14.1.e, q14.1.p) : ((List GTok) × Int × (Str × Int × (TList Str) × (TList Int) × Vh) × Int × Int)), tokE g14.1, tokE g14.2, vecE v_a_x3 (q14.1.m.nodes : List GNode), boxE b5 (q14.2 : GCon)]) (.cons .here (.cons (.there (.there (.there .here))) (.cons .here (.cons .here (.cons .here .nil))))) h (fun q14 g14 h => ?_) (fun J15 h hJ15 => ?_))
  ·
   refine w_seq (wsr (oM rfl (cal_inv h fun y25 hy25 h => oT (t_call (r05_parser_is_w hy25) hT (.same rfl (.same rfl .nil)) (.cons .here (.cons .here (.cons .here (.cons .here .nil)))) (fun R H' hR => ?_)))))
   obtain ⟨t26, t27, rfl, rfl⟩ := hR
   refine rnf (w_J (ι := GPar × GCon) (γ := Tok × Tok) (fun q28 g28 => []) (fun q28 g28 => [boxE b_a_x ((q28.1.l, q28.1.at_, (q28.1.m.name, q28.1.m.tagging, (TList.mk g28.1 q28.1.m.names), (TList.mk g28.2 q28.1.m.types), (Vh.mk v_a_x3 q28.1.m.nodes.length)), q28.1.e, q28.1.p) : ((List GTok) × Int × (Str × Int × (TList Str) × (TList Int) × Vh) × Int × Int)), tokE g28.1, tokE g28.2, vecE v_a_x3 (q28.1.m.nodes : List GNode), boxE b5 (q28.2 : GCon)]) (.cons .here (.cons (.there (.there (.there .here))) (.cons .here (.cons .here (.cons .here .nil))))) h (fun q28 g28 h => ?_) (fun J29 h hJ29 => ?_))
   ·
    refine wsr (oT (t_loadC (R := isv (q28.2)) ty83 rfl (.there (.there (.there (.there .here)))) (fun _ _ h => h) (oT (t_storeC (y' := (q28.2 : GCon)) ty83 rfl rfl (fun _ _ h => h) (.there (.there (.there (.there (.there .here))))) rfl (rnf (w_ret ?_))))))
    refine ret_post (.cell rfl .here ty83 .nil) (.cons (.there .here) (.cons (.there .here) (.cons (.there .here) (.cons (.there .here) .nil)))) ?_
    obtain rfl := Option.some.inj h
    exact ⟨g28.1, g28.2, rfl, rfl⟩
   ·
    refine w_condM h rfl (fun _ h => ?_) (fun _ h => ?_)
    ·
     refine wsr (oM rfl (cal_inv h fun y30 hy30 h => oT (t_call (r05_parser_must_w hy30) hT (.same rfl (.same rfl .nil)) (.cons .here (.cons .here (.cons .here (.cons .here .nil)))) (fun R H' hR => ?_))))
     obtain ⟨t31, t32, rfl, rfl⟩ := hR
     refine rnf (w_region (oV (v_fa rfl GCon.f3 fd83_3) (oT (t_storeC (y' := ({ q14.2 with more := true } : GCon)) ty4 rfl rfl (fun _ _ h => h) (.there (.there (.there (.there .here)))) rfl (rl_nil ?_)))))
     exact hJ29 _ (t31, t32) h _ (join_imp 3 rfl rfl mod_nil (.cons (.there .here) (.cons (.there .here) (.cons (.there .here) (.cons (.there .here) (.cons .here (.cons .here .nil)))))))
    ·
     exact w_skip (hJ29 _ (t26, t27) h _ (join_imp 0 rfl rfl mod_nil (.cons .here (.cons .here (.cons .here (.cons .here (.cons .here (.cons .here .nil))))))))
  ·
   refine w_block (wsr (oM rfl (cal_inv h fun y16 hy16 h => oT (t_call (r05_parser_is_w hy16) hT (.same rfl (.same rfl .nil)) (.cons .here (.cons .here (.cons .here (.cons .here .nil)))) (fun R H' hR => ?_)))))
   obtain ⟨t17, t18, rfl, rfl⟩ := hR
   refine oA rfl (rnf (w_condM h rfl (fun _ h => ?_) (fun _ h => ?_)))
   ·
    refine wsr (oM rfl (cal_inv h fun y19 hy19 h => oT (t_call (r05_parser_is_w hy19) hT (.same rfl (.same rfl .nil)) (.cons .here (.cons .here (.cons .here (.cons .here .nil)))) (fun R H' hR => ?_))))
    obtain ⟨t20, t21, rfl, rfl⟩ := hR
    refine oV (v_not rfl) (rnf (w_condM h rfl (fun _ h => ?_) (fun _ h => ?_)))
    ·
     refine w_region (oM rfl (cal_inv h fun y22 hy22 h => oT (t_call (r05_parser_number_w hy22) hT (.same rfl .nil) (.cons .here (.cons .here (.cons .here (.cons .here .nil)))) (fun R H' hR => ?_))))
     obtain ⟨t23, t24, rfl, rfl⟩ := hR
     refine oV (v_fa rfl GCon.f2 fd83_2) (oT (t_storeC (y' := ({ q9.2 with hasHigh := true } : GCon)) ty4 rfl rfl (fun _ _ h => h) (.there (.there (.there (.there .here)))) rfl (oV (v_fa rfl GCon.f5 fd83_5) (oT (t_storeC (y' := ({ { q9.2 with hasHigh := true } with high := y22.1 } : GCon)) ty2 rfl rfl (fun _ _ h => h) .here rfl (rl_nil ?_))))))
     exact fin_block (hJ15 _ (t23, t24) h _ (join_imp 10 rfl rfl mod_nil (.cons (.there .here) (.cons (.there .here) (.cons (.there .here) (.cons (.there .here) (.cons .here (.cons .here .nil))))))))
    ·
     exact w_skip (fin_block (hJ15 _ (t20, t21) h _ (join_imp 6 rfl rfl mod_nil (.cons .here (.cons .here (.cons .here (.cons .here (.cons .here (.cons .here .nil)))))))))
   ·
    refine wsr (oV (v_fa rfl GCon.f1 fd83_1) (oT (t_loadC (R := isv (q9.2.hasLow)) ty4 rfl (.there (.there (.there (.there .here)))) (fun _ _ h => h) (oA rfl (rnf ?_)))))
    refine w_condM h rfl (fun _ h => ?_) (fun _ h => ?_)
    ·
     refine w_region (oV (v_fa rfl GCon.f4 fd83_4) (oT (t_loadC (R := isv (q9.2.low)) ty2 rfl (.there (.there (.there (.there .here)))) (fun _ _ h => h) (oV (v_fa rfl GCon.f2 fd83_2) (oT (t_storeC (y' := ({ q9.2 with hasHigh := true } : GCon)) ty4 rfl rfl (fun _ _ h => h) (.there (.there (.there (.there .here)))) rfl ?_))))))
     exact oV (v_fa rfl GCon.f5 fd83_5) (oT (t_storeC (y' := ({ { q9.2 with hasHigh := true } with high := q9.2.low } : GCon)) ty2 rfl rfl (fun _ _ h => h) .here rfl (rl_nil (fin_block (hJ15 _ (t17, t18) h _ (join_imp 10 rfl rfl mod_nil (.cons (.there .here) (.cons (.there .here) (.cons (.there .here) (.cons (.there .here) (.cons .here (.cons .here .nil))))))))))))
    ·
     exact w_skip (fin_block (hJ15 _ (t17, t18) h _ (join_imp 6 rfl rfl mod_nil (.cons .here (.cons .here (.cons .here (.cons .here (.cons .here (.cons .here .nil)))))))))
 ·
  refine w_condM h rfl (fun _ h => ?_) (fun _ h => ?_)
  ·
   refine w_region (oM rfl (cal_inv h fun y11 hy11 h => oT (t_call (r05_parser_number_w hy11) hT (.same rfl .nil) (.cons .here (.cons .here (.cons .here (.cons .here .nil)))) (fun R H' hR => ?_))))
   obtain ⟨t12, t13, rfl, rfl⟩ := hR
   refine oV (v_fa rfl GCon.f1 fd83_1) (oT (t_storeC (y' := ((GCon.mk true true false false (0 : Int) (0 : Int)) : GCon)) ty4 rfl rfl (fun _ _ h => h) (.there (.there (.there (.there .here)))) rfl (oV (v_fa rfl GCon.f4 fd83_4) (oT (t_storeC (y' := ((GCon.mk true true false false y11.1 (0 : Int)) : GCon)) ty2 rfl rfl (fun _ _ h => h) .here rfl (rl_nil ?_))))))
   exact hJ10 _ (t12, t13) h _ (join_imp 4 rfl rfl mod_nil (.cons (.there .here) (.cons (.there .here) (.cons (.there .here) (.cons (.there .here) (.cons .here (.cons .here .nil)))))))
  ·
   exact w_skip (hJ10 _ (t7, t8) h _ (join_imp 0 rfl rfl mod_nil (.cons .here (.cons .here (.cons .here (.cons .here (.cons .here (.cons .here .nil))))))))


theorem r05_parser_size_w : ∀ {a_x : GPar} {b_a_x : Nat} {t_a_x1 : Tok} {t_a_x2 : Tok} {v_a_x3 : Vt} {r : GCon × GPar}, r05_parser_size a_x = some r → Ctr Tryz.prog 146 [ptrv b_a_x (Fld.id ((List GTok) × Int × (Str × Int × (TList Str) × (TList Int) × Vh) × Int × Int))] [boxE b_a_x ((a_x.l, a_x.at_, (a_x.m.name, a_x.m.tagging, (TList.mk t_a_x1 a_x.m.names), (TList.mk t_a_x2 a_x.m.types), (Vh.mk v_a_x3 a_x.m.nodes.length)), a_x.e, a_x.p) : ((List GTok) × Int × (Str × Int × (TList Str) × (TList Int) × Vh) × Int × Int)), tokE t_a_x1, tokE t_a_x2, vecE v_a_x3 (a_x.m.nodes : List GNode)] (fun R H => ∃ u1 : Tok, ∃ u2 : Tok, R = oneOf [isv (r.1)] ∧ H = [boxE b_a_x ((r.2.l, r.2.at_, (r.2.m.name, r.2.m.tagging, (TList.mk u1 r.2.m.names), (TList.mk u2 r.2.m.types), (Vh.mk v_a_x3 r.2.m.nodes.length)), r.2.e, r.2.p)), tokE u1, tokE u2, vecE v_a_x3 (r.2.m.nodes)]) := by
 intro a_x b_a_x t_a_x1 t_a_x2 v_a_x3 r h
 unfold r05_parser_size at h
 refine spec_intro Tryz.func146 rfl (by decide +kernel) (by rfl) fun w0 S0 hT => ?_
 refine wsr (oT (t_alloc _ ze83 fun b4 => rnf (w_seq (wsr ?_))))
 refine oM rfl (cal_inv h fun y5 hy5 h => oT (t_call (r05_parser_is_w hy5) hT (.same rfl (.same rfl .nil)) (.cons (.there .here) (.cons (.there .here) (.cons (.there .here) (.cons (.there .here) .nil)))) (fun R H' hR => ?_)))
 obtain ⟨t6, t7, rfl, rfl⟩ := hR
 refine oV (v_not rfl) (rnf (w_condM h rfl (fun _ h => ?_) (fun _ h => ?_)))
 ·
  refine wsr (oV (v_build (z := (GCon.mk false false false false (0 : Int) (0 : Int))) rfl bu83 ze83 .nil) (oT (t_storeC (y' := ((GCon.mk false false false false (0 : Int) (0 : Int)) : GCon)) ty83 rfl rfl (fun _ _ h => h) (.there (.there (.there (.there .here)))) rfl (rnf (w_ret ?_)))))
  refine ret_nxt (ret_post (.cell rfl .here ty83 .nil) (.cons (.there .here) (.cons (.there .here) (.cons (.there .here) (.cons (.there .here) .nil)))) ?_)
  obtain rfl := Option.some.inj h
  exact ⟨t6, t7, rfl, rfl⟩
 ·
  refine wkf (wsr (oM rfl (cal_inv h fun y8 hy8 h => oT (t_call (r05_parser_must_w hy8) hT (.same rfl (.same rfl .nil)) (.cons .here (.cons .here (.cons .here (.cons .here .nil)))) (fun R H' hR => ?_)))))
  obtain ⟨t9, t10, rfl, rfl⟩ := hR
  refine rnf (wsr (oM rfl (cal_inv h fun y11 hy11 h => oT (t_call (r05_parser_must_w hy11) hT (.same rfl (.same rfl .nil)) (.cons .here (.cons .here (.cons .here (.cons .here .nil)))) (fun R H' hR => ?_)))))
  obtain ⟨t12, t13, rfl, rfl⟩ := hR
  refine rnf (wsr (oM rfl (cal_inv h fun y14 hy14 h => oT (t_call (r05_parser_bounds_w hy14) hT (.same rfl .nil) (.cons .here (.cons .here (.cons .here (.cons .here .nil)))) (fun R H' hR => ?_)))))
  obtain ⟨t15, t16, rfl, rfl⟩ := hR
  refine oT (t_alloc _ ze83 fun b17 => oT (t_storeC (y' := (y14.1 : GCon)) ty83 rfl rfl (fun _ _ h => h) .here rfl (rl_upd (upd_imm 3 .here rfl) (rnf (wsr ?_)))))
  refine oM rfl (cal_inv h fun y18 hy18 h => oT (t_call (r05_parser_must_w hy18) hT (.same rfl (.same rfl .nil)) (.cons .here (.cons .here (.cons .here (.cons .here .nil)))) (fun R H' hR => ?_)))
  obtain ⟨t19, t20, rfl, rfl⟩ := hR
  refine rnf (wsr (oM rfl (cal_inv h fun y21 hy21 h => oT (t_call (r05_parser_must_w hy21) hT (.same rfl (.same rfl .nil)) (.cons .here (.cons .here (.cons .here (.cons .here .nil)))) (fun R H' hR => ?_)))))
  obtain ⟨t22, t23, rfl, rfl⟩ := hR
  refine rnf (wsr (oV (v_loadI ty83 rfl) (oT (t_storeC (y' := (y14.1 : GCon)) ty83 rfl rfl (fun _ _ h => h) (.there (.there (.there (.there .here)))) rfl (rnf ?_)))))
  refine w_ret (ret_post (.cell rfl .here ty83 .nil) (.cons (.there .here) (.cons (.there .here) (.cons (.there .here) (.cons (.there .here) .nil)))) ?_)
  obtain rfl := Option.some.inj h
  exact ⟨t22, t23, rfl, rfl⟩


theorem r05_parser_items_w : ∀ {a_x : GPar} {a_n_ : GNode} {b_a_x : Nat} {t_a_x1 : Tok} {t_a_x2 : Tok} {v_a_x3 : Vt} {b_a_n_ : Nat} {t_a_n_4 : Tok} {t_a_n_5 : Tok} {r : GPar × GNode}, r05_parser_items a_x a_n_ = some r → Ctr Tryz.prog 148 [ptrv b_a_x (Fld.id ((List GTok) × Int × (Str × Int × (TList Str) × (TList Int) × Vh) × Int × Int)), ptrv b_a_n_ (Fld.id (Int × Str × GMark × GCon × (TList GItem) × (TList GFld) × Int × Bool × Int))] [boxE b_a_x ((a_x.l, a_x.at_, (a_x.m.name, a_x.m.tagging, (TList.mk t_a_x1 a_x.m.names), (TList.mk t_a_x2 a_x.m.types), (Vh.mk v_a_x3 a_x.m.nodes.length)), a_x.e, a_x.p) : ((List GTok) × Int × (Str × Int × (TList Str) × (TList Int) × Vh) × Int × Int)), tokE t_a_x1, tokE t_a_x2, vecE v_a_x3 (a_x.m.nodes : List GNode), boxE b_a_n_ ((a_n_.kind, a_n_.name, a_n_.mark, a_n_.con, (TList.mk t_a_n_4 a_n_.items), (TList.mk t_a_n_5 a_n_.fields), a_n_.root, a_n_.more, a_n_.of) : (Int × Str × GMark × GCon × (TList GItem) × (TList GFld) × Int × Bool × Int)), tokE t_a_n_4, tokE t_a_n_5] (fun R H => ∃ u1 : Tok, ∃ u2 : Tok, ∃ u3 : Tok, ∃ u4 : Tok, R = oneOf [] ∧ H = [boxE b_a_x ((r.1.l, r.1.at_, (r.1.m.name, r.1.m.tagging, (TList.mk u1 r.1.m.names), (TList.mk u2 r.1.m.types), (Vh.mk v_a_x3 r.1.m.nodes.length)), r.1.e, r.1.p)), tokE u1, tokE u2, vecE v_a_x3 (r.1.m.nodes), boxE b_a_n_ ((r.2.kind, r.2.name, r.2.mark, r.2.con, (TList.mk u3 r.2.items), (TList.mk u4 r.2.fields), r.2.root, r.2.more, r.2.of)), tokE u3, tokE u4]) := by
 intro a_x a_n_ b_a_x t_a_x1 t_a_x2 v_a_x3 b_a_n_ t_a_n_4 t_a_n_5 r h
 unfold r05_parser_items at h
 refine spec_intro Tryz.func148 rfl (by decide +kernel) (by rfl) fun w0 S0 hT => ?_
 refine w_seq ?_
 refine w_J (ι := GPar × GNode) (γ := Tok × Tok × Tok × Tok) (fun q6 g6 => []) (fun q6 g6 => [boxE b_a_x ((q6.1.l, q6.1.at_, (q6.1.m.name, q6.1.m.tagging, (TList.mk g6.1 q6.1.m.names), (TList.mk g6.2.1 q6.1.m.types), (Vh.mk v_a_x3 q6.1.m.nodes.length)), q6.1.e, q6.1.p) : ((List GTok) × Int × (Str × Int × (TList Str) × (TList Int) × Vh) × Int × Int)), tokE g6.1, tokE g6.2.1, vecE v_a_x3 (q6.1.m.nodes : List GNode), boxE b_a_n_ ((q6.2.kind, q6.2.name, q6.2.mark, q6.2.con, (TList.mk g6.2.2.1 q6.2.items), (TList.mk g6.2.2.2 q6.2.fields), q6.2.root, q6.2.more, q6.2.of) : (Int × Str × GMark × GCon × (TList GItem) × (TList GFld) × Int × Bool × Int)), tokE g6.2.2.1, tokE g6.2.2.2]) (.cons .here (.cons (.there (.there (.there .here))) (.cons .here (.cons .here (.cons .here (.cons .here (.cons .here .nil))))))) h (fun q6 g6 h => ?_) (fun J7 h hJ7 => ?_)
 ·
  refine wsr (oM rfl (oV (v_nilCheck rfl) (oV (v_fa rfl pt167_0_7 fd167_7) (oT (t_loadC (R := isv (q6.2.more)) ty4 rfl (.there (.there (.there (.there .here)))) (fun _ _ h => h) ?_)))))
  refine oV (v_not rfl) (rnf (w_condM h rfl (fun _ h => ?_) (fun _ h => ?_)))
  ·
   refine w_region (oM rfl (oM rfl (oV (v_nilCheck rfl) (oV (v_fa rfl pt167_0_4 fd167_4) ?_))))
   refine oT (t_loadC (R := appv g6.2.2.1 (q6.2.items)) ty84 rfl (.there (.there (.there (.there .here)))) isvT1 (oV (v_ln (l := q6.2.items) rfl appv_isv sl84) (oV (v_nilCheck rfl) (oV (v_fa rfl pt167_0_6 fd167_6) (oT (t_storeC (y' := ((q6.2.kind, q6.2.name, q6.2.mark, q6.2.con, (TList.mk g6.2.2.1 q6.2.items), (TList.mk g6.2.2.2 q6.2.fields), (q6.2.items.length : Int), q6.2.more, q6.2.of) : (Int × Str × GMark × GCon × (TList GItem) × (TList GFld) × Int × Bool × Int))) ty3 rfl rfl (fun _ _ h => h) (.there (.there (.there (.there .here)))) rfl ?_))))))
   refine rl_nil (fin_post .nil (.cons (.there .here) (.cons (.there .here) (.cons (.there .here) (.cons (.there .here) (.cons .here (.cons .here (.cons .here .nil))))))) ?_)
   obtain rfl := Option.some.inj h
   exact ⟨g6.1, g6.2.1, g6.2.2.1, g6.2.2.2, rfl, rfl⟩
  ·
   refine w_skip (fin_post .nil (.cons .here (.cons .here (.cons .here (.cons .here (.cons .here (.cons .here (.cons .here .nil))))))) ?_)
   obtain rfl := Option.some.inj h
   exact ⟨g6.1, g6.2.1, g6.2.2.1, g6.2.2.2, rfl, rfl⟩
 ·
  refine w_block ?_
  refine w_lp (ι := GPar × GNode) (γ := Tok × Tok × Tok × Tok) (fun q8 g8 => []) (fun q8 g8 => [boxE b_a_x ((q8.1.l, q8.1.at_, (q8.1.m.name, q8.1.m.tagging, (TList.mk g8.1 q8.1.m.names), (TList.mk g8.2.1 q8.1.m.types), (Vh.mk v_a_x3 q8.1.m.nodes.length)), q8.1.e, q8.1.p) : ((List GTok) × Int × (Str × Int × (TList Str) × (TList Int) × Vh) × Int × Int)), tokE g8.1, tokE g8.2.1, vecE v_a_x3 (q8.1.m.nodes : List GNode), boxE b_a_n_ ((q8.2.kind, q8.2.name, q8.2.mark, q8.2.con, (TList.mk g8.2.2.1 q8.2.items), (TList.mk g8.2.2.2 q8.2.fields), q8.2.root, q8.2.more, q8.2.of) : (Int × Str × GMark × GCon × (TList GItem) × (TList GFld) × Int × Bool × Int)), tokE g8.2.2.1, tokE g8.2.2.2]) h (t_a_x1, t_a_x2, t_a_n_4, t_a_n_5) mod_nil (.cons .here (.cons .here (.cons .here (.cons .here (.cons .here (.cons .here (.cons .here .nil))))))) (fun L9 q8 g8 Q82 h hL9 eL9 rL9 => ?_)
  refine w_seq (wsr (oM rfl (oV (v_nilCheck rfl) (oV (v_fa rfl pt129_0_3 fd129_3) ?_))))
  refine oT (t_loadC (R := isv (q8.1.e)) ty65 rfl .here (fun _ _ h => h) (oV (v_eql rfl rfl) (rnf (w_condM h rfl (fun _ h => ?_) (fun _ h => ?_)))))
  ·
   refine wkf (w_block (w_seq (wsr (oM rfl ?_))))
   refine oV (v_nilCheck rfl) (oV (v_fa rfl pt167_0_4 fd167_4) (oT (t_loadC (R := appv g8.2.2.1 (q8.2.items)) ty84 rfl (.there (.there (.there (.there .here)))) isvT1 (oV (v_ln (l := q8.2.items) rfl appv_isv sl84) (oV (v_gtr rfl rfl) ?_)))))
   refine oM rfl (rl_j (jb 22) je .nil h 6 rfl (fun q46 g46 h => ?_) (fun J47 h hJ47 => ?_))
   ·
    refine oM rfl (rl_j (ι := Bool × GPar) (γ := Tok × Tok) (fun q49 g49 => [(26, isv (q49.1))]) (fun q49 g49 => [boxE b_a_x ((q49.2.l, q49.2.at_, (q49.2.m.name, q49.2.m.tagging, (TList.mk g49.1 q49.2.m.names), (TList.mk g49.2 q49.2.m.types), (Vh.mk v_a_x3 q49.2.m.nodes.length)), q49.2.e, q49.2.p) : ((List GTok) × Int × (Str × Int × (TList Str) × (TList Int) × Vh) × Int × Int)), tokE g49.1, tokE g49.2, vecE v_a_x3 (q49.2.m.nodes : List GNode)]) (.cons .here (.cons .here (.cons .here (.cons .here .nil)))) h 3 rfl (fun q49 g49 h => ?_) (fun J50 h hJ50 => ?_))
    ·
     refine rnf ?_
     refine w_J (ι := GPar × GNode) (γ := Tok × Tok × Tok × Tok) (fun q55 g55 => []) (fun q55 g55 => [boxE b_a_x ((q55.1.l, q55.1.at_, (q55.1.m.name, q55.1.m.tagging, (TList.mk g55.1 q55.1.m.names), (TList.mk g55.2.1 q55.1.m.types), (Vh.mk v_a_x3 q55.1.m.nodes.length)), q55.1.e, q55.1.p) : ((List GTok) × Int × (Str × Int × (TList Str) × (TList Int) × Vh) × Int × Int)), tokE g55.1, tokE g55.2.1, vecE v_a_x3 (q55.1.m.nodes : List GNode), boxE b_a_n_ ((q55.2.kind, q55.2.name, q55.2.mark, q55.2.con, (TList.mk g55.2.2.1 q55.2.items), (TList.mk g55.2.2.2 q55.2.fields), q55.2.root, q55.2.more, q55.2.of) : (Int × Str × GMark × GCon × (TList GItem) × (TList GFld) × Int × Bool × Int)), tokE g55.2.2.1, tokE g55.2.2.2]) (.cons .here (.cons (.there (.there (.there .here))) (.cons .here (.cons .here (.cons .here (.cons .here (.cons .here .nil))))))) h (fun q55 g55 h => ?_) (fun J56 h hJ56 => ?_)
     ·
      refine wsr (oM rfl (cal_inv h fun y79 hy79 h => oT (t_call (r05_parser_is_w hy79) hT (.same rfl (.same rfl .nil)) (.cons .here (.cons .here (.cons .here (.cons .here .nil)))) (fun R H' hR => ?_))))
      obtain ⟨t80, t81, rfl, rfl⟩ := hR
      refine oV (v_not rfl) (rnf (w_condM h rfl (fun _ h => ?_) (fun _ h => ?_)))
      ·
       exact w_exit (exi_pass rfl (eL9 _ _ (exi_block (hJ7 _ (t80, t81, g55.2.2.1, g55.2.2.2) h _ (join_imp 18 rfl rfl mod_nil (.cons .here (.cons .here (.cons .here (.cons .here (.cons .here (.cons .here (.cons .here .nil))))))))))))
      ·
       exact w_skip (fin_block (hL9 _ (t80, t81, g55.2.2.1, g55.2.2.2) h _ (join_imp 18 rfl rfl mod_nil (.cons .here (.cons .here (.cons .here (.cons .here (.cons .here (.cons .here (.cons .here .nil))))))))))
     ·
      refine w_condM h rfl (fun _ h => ?_) (fun _ h => ?_)
      ·
       refine w_region (oM rfl (oM rfl (oM rfl (oV (v_nilCheck rfl) ?_))))
       refine oV (v_fa rfl pt167_0_4 fd167_4) (oT (t_loadC (R := appv g8.2.2.1 (q8.2.items)) ty84 rfl (.there (.there (.there (.there .here)))) isvT1 (oV (v_ln (l := q8.2.items) rfl appv_isv sl84) (oV (v_nilCheck rfl) (oV (v_fa rfl pt167_0_7 fd167_7) ?_)))))
       refine oT (t_storeC (y' := ((q8.2.kind, q8.2.name, q8.2.mark, q8.2.con, (TList.mk g8.2.2.1 q8.2.items), (TList.mk g8.2.2.2 q8.2.fields), q8.2.root, true, q8.2.of) : (Int × Str × GMark × GCon × (TList GItem) × (TList GFld) × Int × Bool × Int))) ty4 rfl rfl (fun _ _ h => h) (.there (.there (.there (.there .here)))) rfl (oV (v_nilCheck rfl) (oV (v_fa rfl pt167_0_6 fd167_6) (oT (t_storeC (y' := ((q8.2.kind, q8.2.name, q8.2.mark, q8.2.con, (TList.mk g8.2.2.1 q8.2.items), (TList.mk g8.2.2.2 q8.2.fields), (q8.2.items.length : Int), true, q8.2.of) : (Int × Str × GMark × GCon × (TList GItem) × (TList GFld) × Int × Bool × Int))) ty3 rfl rfl (fun _ _ h => h) .here rfl (rl_nil ?_))))))
       exact hJ56 _ (g49.1, g49.2, g8.2.2.1, g8.2.2.2) h _ (join_imp 11 rfl rfl mod_nil (.cons (.there .here) (.cons (.there .here) (.cons (.there .here) (.cons (.there .here) (.cons .here (.cons .here (.cons .here .nil))))))))
      ·
       refine wsr (oM rfl (cal_inv h fun y57 hy57 h => oT (t_call (r05_parser_kind_w hy57) hT (.same rfl (.same rfl .nil)) (.cons .here (.cons .here (.cons .here (.cons .here .nil)))) (fun R H' hR => ?_))))
       obtain ⟨t58, t59, rfl, rfl⟩ := hR
       refine oV (v_build (z := (GItem.mk y57.1 (0 : Int) false)) rfl bu97 ze97 (.cons GItem.f0 fd97_0 rfl (fun _ _ h => h) .nil)) (oT (t_alloc _ ze97 fun b60 => oT (t_storeC (y' := ((GItem.mk y57.1 (0 : Int) false) : GItem)) ty97 rfl rfl (fun _ _ h => h) .here rfl (rnf (w_seq ?_)))))
       refine wsr (oM rfl (cal_inv h fun y61 hy61 h => oT (t_call (r05_parser_is_w hy61) hT (.same rfl (.same rfl .nil)) (.cons (.there .here) (.cons (.there .here) (.cons (.there .here) (.cons (.there .here) .nil)))) (fun R H' hR => ?_))))
       obtain ⟨t62, t63, rfl, rfl⟩ := hR
       refine rnf (w_J (ι := GPar × GItem) (γ := Tok × Tok) (fun q64 g64 => []) (fun q64 g64 => [boxE b_a_x ((q64.1.l, q64.1.at_, (q64.1.m.name, q64.1.m.tagging, (TList.mk g64.1 q64.1.m.names), (TList.mk g64.2 q64.1.m.types), (Vh.mk v_a_x3 q64.1.m.nodes.length)), q64.1.e, q64.1.p) : ((List GTok) × Int × (Str × Int × (TList Str) × (TList Int) × Vh) × Int × Int)), tokE g64.1, tokE g64.2, vecE v_a_x3 (q64.1.m.nodes : List GNode), boxE b60 (q64.2 : GItem)]) (.cons .here (.cons (.there (.there (.there .here))) (.cons .here (.cons .here (.cons .here .nil))))) h (fun q64 g64 h => ?_) (fun J65 h hJ65 => ?_))
       ·
        refine w_pinN 4 (.there (.there (.there (.there .here)))) rfl (fun o72 hn73 => w_regionD (.v 0 (.v 1 (.v 2 (.v 3 (.v 5 (.alt 4 (.t 6 (.t 7 (.v 8 (.v 9 (.t 10 .nil))))) (.t 6 (.t 4 (.t 7 (.v 8 (.v 9 (.t 10 .nil)))))))))))) moOrd (by kernel_rfl) ?_)
        refine rvm rfl rfl (rvm rfl rfl (rd_v rfl (v_nilCheck rfl) (rd_v rfl (v_fa rfl pt167_0_4 fd167_4) (rd_v rfl (v_lpC (R := isv (q64.2)) ty97 rfl (List.Mem.head _) (fun _ _ h => h)) ?_))))
        refine asr_inv h fun q76 h => rd_two ?_ ?_
        ·
         refine rd_t rfl rfl (t_loadC (R := appv g8.2.2.1 (q8.2.items)) ty84 rfl (.there (.there (.there (.there .here)))) isvT1 (rd_t rfl rfl (t_buildSlice (l := ([q64.2] : (List GItem))) el84 (.cons rfl (fun _ _ h => h) .nil) rfl rfl (rd_t rfl rfl (t_appC (l := q8.2.items) (m := ([q64.2] : (List GItem))) ap84_84 rfl (fun _ _ h => h) rfl appv_isv (.there (.there (.there (.there (.there .here))))) q76 fun t75 => rd_v rfl (v_nilCheck rfl) (rd_v rfl (v_fa rfl pt167_0_4 fd167_4) ?_))))))
         refine rd_t rfl rfl (t_storeC (y' := ((q8.2.kind, q8.2.name, q8.2.mark, q8.2.con, (TList.mk t75 (q8.2.items ++ ([q64.2] : (List GItem)))), (TList.mk g8.2.2.2 q8.2.fields), q8.2.root, q8.2.more, q8.2.of) : (Int × Str × GMark × GCon × (TList GItem) × (TList GFld) × Int × Bool × Int))) ty84 rfl rfl isvT2 (.there (.there (.there (.there (.there .here))))) rfl (rd_nil (fin_unpinN 4 hn73 rfl ?_)))
         exact hJ56 _ (g64.1, g64.2, t75, g8.2.2.2) h _ (join_imp 18 rfl rfl mod_nil (.cons (.there (.there (.there .here))) (.cons (.there (.there (.there .here))) (.cons (.there (.there (.there .here))) (.cons (.there (.there (.there .here))) (.cons (.there .here) (.cons (.there .here) (.cons (.there .here) .nil))))))))
        ·
         refine rd_t rfl rfl (t_buildSlice (l := ([q64.2] : (List GItem))) el84 (.cons rfl (fun _ _ h => h) .nil) rfl rfl (rd_t rfl rfl (t_loadC (R := appv g8.2.2.1 (q8.2.items)) ty84 rfl (.there (.there (.there (.there .here)))) isvT1 (rd_t rfl rfl (t_appC (l := q8.2.items) (m := ([q64.2] : (List GItem))) ap84_84 rfl (fun _ _ h => h) rfl appv_isv (.there (.there (.there (.there (.there .here))))) q76 fun t78 => rd_v rfl (v_nilCheck rfl) (rd_v rfl (v_fa rfl pt167_0_4 fd167_4) ?_))))))
         refine rd_t rfl rfl (t_storeC (y' := ((q8.2.kind, q8.2.name, q8.2.mark, q8.2.con, (TList.mk t78 (q8.2.items ++ ([q64.2] : (List GItem)))), (TList.mk g8.2.2.2 q8.2.fields), q8.2.root, q8.2.more, q8.2.of) : (Int × Str × GMark × GCon × (TList GItem) × (TList GFld) × Int × Bool × Int))) ty84 rfl rfl isvT2 (.there (.there (.there (.there (.there .here))))) rfl (rd_nil (fin_unpinN 4 hn73 rfl ?_)))
         exact hJ56 _ (g64.1, g64.2, t78, g8.2.2.2) h _ (join_imp 18 rfl rfl mod_nil (.cons (.there (.there (.there .here))) (.cons (.there (.there (.there .here))) (.cons (.there (.there (.there .here))) (.cons (.there (.there (.there .here))) (.cons (.there .here) (.cons (.there .here) (.cons (.there .here) .nil))))))))
       ·
        refine w_condM h rfl (fun _ h => ?_) (fun _ h => ?_)
        ·
         refine wsr (oM rfl (cal_inv h fun y66 hy66 h => oT (t_call (r05_parser_number_w hy66) hT (.same rfl .nil) (.cons .here (.cons .here (.cons .here (.cons .here .nil)))) (fun R H' hR => ?_))))
         obtain ⟨t67, t68, rfl, rfl⟩ := hR
         refine oV (v_fa rfl GItem.f2 fd97_2) (oT (t_storeC (y' := ((GItem.mk y57.1 (0 : Int) true) : GItem)) ty4 rfl rfl (fun _ _ h => h) (.there (.there (.there (.there .here)))) rfl (oV (v_fa rfl GItem.f1 fd97_1) (oT (t_storeC (y' := ((GItem.mk y57.1 y66.1 true) : GItem)) ty2 rfl rfl (fun _ _ h => h) .here rfl (rnf ?_))))))
         refine w_region (oM rfl (cal_inv h fun y69 hy69 h => oT (t_call (r05_parser_must_w hy69) hT (.same rfl (.same rfl .nil)) (.cons (.there .here) (.cons (.there .here) (.cons (.there .here) (.cons (.there .here) .nil)))) (fun R H' hR => ?_))))
         obtain ⟨t70, t71, rfl, rfl⟩ := hR
         exact rl_nil (hJ65 _ (t70, t71) h _ (join_imp 6 rfl rfl mod_nil (.cons .here (.cons .here (.cons .here (.cons .here (.cons .here (.cons .here (.cons .here (.cons .here .nil))))))))))
        ·
         exact w_skip (hJ65 _ (t62, t63) h _ (join_imp 0 rfl rfl mod_nil (.cons .here (.cons .here (.cons .here (.cons .here (.cons .here (.cons .here (.cons .here (.cons .here .nil))))))))))
    ·
     refine rl_condM (j := 23) h rfl (fun g51 h => ?_) (fun g51 h => ?_)
     ·
      refine oK 23 rfl rfl rfl g51 (v_move rfl) (cal_inv h fun y52 hy52 h => op_take rfl rfl (dj := 23) rfl g51 (t_call (r05_parser_is_w hy52) hT (.same rfl (.same rfl .nil)) (.cons .here (.cons .here (.cons .here (.cons .here .nil)))) (fun R H' hR => ?_)))
      obtain ⟨t53, t54, rfl, rfl⟩ := hR
      exact oV (v_pick_t rfl g51 rfl) (hJ50 _ (t53, t54) h _ (join_imp 3 rfl rfl (mod_cons (j := 26) rfl (fun _ _ h => h) mod_nil) (.cons .here (.cons .here (.cons .here (.cons .here (.cons .here (.cons .here (.cons .here .nil)))))))))
     ·
      exact oP 23 rfl rfl g51 (oP 23 rfl rfl g51 (oV (v_pick_f rfl g51 rfl) (hJ50 _ (g8.1, g8.2.1) h _ (join_imp 3 rfl rfl (mod_cons (j := 26) rfl (fun _ _ h => h) mod_nil) (.cons .here (.cons .here (.cons .here (.cons .here (.cons .here (.cons .here (.cons .here .nil)))))))))))
   ·
    refine rl_condM (j := 16) h rfl (fun g48 h => ?_) (fun g48 h => ?_)
    ·
     refine oK 16 rfl rfl rfl g48 (v_move rfl) (oK 16 rfl rfl rfl g48 (v_nilCheck rfl) (oK 16 rfl rfl rfl g48 (v_fa rfl pt167_0_7 fd167_7) (op_take rfl rfl (dj := 16) rfl g48 (t_loadC (R := isv (q8.2.more)) ty4 rfl (.there (.there (.there (.there .here)))) (fun _ _ h => h) (oK 16 rfl rfl rfl g48 (v_not rfl) ?_)))))
     exact oV (v_pick_t rfl g48 rfl) (hJ47 _ () h _ (join_imp 6 rfl rfl (mod_cons (j := 22) rfl (fun _ _ h => h) mod_nil) (.cons .here (.cons .here (.cons .here (.cons .here (.cons .here (.cons .here (.cons .here .nil)))))))))
    ·
     refine oP 16 rfl rfl g48 (oP 16 rfl rfl g48 (oP 16 rfl rfl g48 (oP 16 rfl rfl g48 (oP 16 rfl rfl g48 ?_))))
     exact oV (v_pick_f rfl g48 rfl) (hJ47 _ () h _ (join_imp 6 rfl rfl (mod_cons (j := 22) rfl (fun _ _ h => h) mod_nil) (.cons .here (.cons .here (.cons .here (.cons .here (.cons .here (.cons .here (.cons .here .nil)))))))))
  ·
   exact w_exit (exi_nxt (eL9 _ _ (exi_block (hJ7 _ (g8.1, g8.2.1, g8.2.2.1, g8.2.2.2) h _ (join_imp 5 rfl rfl mod_nil (.cons .here (.cons .here (.cons .here (.cons .here (.cons .here (.cons .here (.cons .here .nil))))))))))))


theorem r05_Hex_w : ∀ {a_s : Str} {r : (List UInt8)}, r05_Hex a_s = some r → Ctr Tryz.prog 192 [isv (a_s)] [] (fun R H => R = oneOf [isv (r)] ∧ H = []) := by
 intro a_s r h
 unfold r05_Hex at h
 refine spec_intro Tryz.func192 rfl (by decide +kernel) (by rfl) fun w0 S0 hT => ?_
 refine wsr (oA rfl (rnf (wsr (oA rfl ?_))))
 refine rnf (w_seq (wsr (oA rfl (rnf ?_))))
 refine w_block (w_upd (upd_tok) (w_lp (ι := (List UInt8) × Int) (γ := Tok) (fun q1 g1 => [(3, appv g1 (q1.1)), (4, isv (q1.2))]) (fun q1 g1 => [tokE g1]) h (none) (mod_cons (j := 3) rfl nilv_appv (mod_cons (j := 4) rfl (fun _ _ h => h) mod_nil)) (.cons .here .nil) (fun L2 q1 g1 Q60 h hL2 eL2 rL2 => w_seq (wsr ?_))))
 refine oM rfl (ck_inv h fun q31 h => oV (v_add rfl rfl q31) (oM rfl (oV (v_lenS st9 rfl) ?_)))
 refine oV (v_lss rfl rfl) (rnf (w_condM h rfl (fun _ h => ?_) (fun _ h => ?_)))
 ·
  refine wkf (w_seq (w_block (wsr (oA rfl ?_))))
  refine rnf (w_seq (wsr (oM rfl (oA rfl ?_))))
  refine rnf (w_block (w_lp (ι := UInt8 × Int) (γ := Unit) (fun q32 g32 => [(5, isv (q32.1)), (6, isv (q32.2))]) (fun q32 g32 => []) h () (mod_cons (j := 5) rfl (fun _ _ h => h) (mod_cons (j := 6) rfl (fun _ _ h => h) mod_nil)) .nil (fun L33 q32 g32 Q58 h hL33 eL33 rL33 => w_seq (wsr ?_))))
  refine oM rfl (oM rfl (ck_inv h fun q46 h => oV (v_add rfl rfl q46) (oV (v_lss rfl rfl) ?_)))
  refine rnf (w_condM h rfl (fun _ h => ?_) (fun _ h => ?_))
  ·
   refine wkf (w_seq (w_block (wsr (oM rfl ?_))))
   refine oM rfl (cal_inv h fun y47 hy47 h => oV (v_idxS y47 st9 rfl rfl hy47) (oV (v_sub8 rfl rfl) (oA rfl ?_)))
   refine rnf (w_seq (wsr (oM rfl (oM rfl ?_))))
   refine cal_inv h fun y48 hy48 h => oV (v_idxS y48 st9 rfl rfl hy48) (oV (v_geq8 rfl rfl) (rnf (w_J (ι := UInt8) (γ := Unit) (fun q49 g49 => [(7, isv (q49))]) (fun q49 g49 => []) .nil h (fun q49 g49 h => ?_) (fun J50 h hJ50 => ?_))))
   ·
    refine w_region (oM rfl (asr_inv h fun q52 h => oV (v_shl8 rfl rfl q52) (oM rfl ?_)))
    refine oV (v_or8 rfl rfl) (oA rfl (rl_nil (fin_block (fin_nxt ?_))))
    refine w_region (oM rfl (ck_inv h fun q53 h => oV (v_add rfl rfl q53) (oA rfl ?_)))
    exact rl_nil (hL33 _ () h _ (join_imp 24 rfl rfl (mod_cons (j := 5) rfl (fun _ _ h => h) (mod_cons (j := 6) rfl (fun _ _ h => h) mod_nil)) (.cons .here .nil)))
   ·
    refine w_condM h rfl (fun _ h => ?_) (fun _ h => ?_)
    ·
     refine w_region (oM rfl (oM rfl (cal_inv h fun y51 hy51 h => oV (v_idxS y51 st9 rfl rfl hy51) ?_)))
     exact oV (v_sub8 rfl rfl) (oV (v_add8 rfl rfl) (oA rfl (rl_nil (hJ50 _ () h _ (join_imp 6 rfl rfl (mod_cons (j := 7) rfl (fun _ _ h => h) mod_nil) (.cons .here .nil))))))
    ·
     exact w_skip (hJ50 _ () h _ (join_imp 0 rfl rfl (mod_cons (j := 7) rfl (fun _ _ h => h) mod_nil) (.cons .here .nil)))
  ·
   refine w_exit (exi_nxt (eL33 _ _ (exi_block (fin_nxt ?_))))
   refine w_region (oM rfl (oM rfl (oT (t_buildSlice (l := ([q32.1] : (List UInt8))) el42 (.cons rfl (fun _ _ h => h) .nil) rfl rfl (asr_inv h fun q56 h => ?_)))))
   refine oT (t_appC (l := q1.1) (m := ([q32.1] : (List UInt8))) ap42_42 rfl (fun _ _ h => h) rfl appv_isv .here q56 fun t55 => oA rfl (rl_nil (fin_block (fin_nxt ?_))))
   refine w_region (oM rfl (ck_inv h fun q57 h => oV (v_add rfl rfl q57) (oA rfl ?_)))
   exact rl_nil (hL2 _ (t55) h _ (join_imp 24 rfl rfl (mod_cons (j := 3) rfl (fun _ _ h => h) (mod_cons (j := 4) rfl (fun _ _ h => h) mod_nil)) (.cons .here .nil)))
 ·
  refine w_exit (exi_nxt (eL2 _ _ (exi_block (fin_nxt ?_))))
  refine wsr (oM rfl (oA rfl (rnf (w_ret ?_))))
  refine ret_post (.as rfl appv_isv .nil) .nil ?_
  obtain rfl := Option.some.inj h
  exact ⟨rfl, rfl⟩


theorem r05_parser_value_w : ∀ {a_x : GPar} {b_a_x : Nat} {t_a_x1 : Tok} {t_a_x2 : Tok} {v_a_x3 : Vt} {r : Val × GPar}, r05_parser_value a_x = some r → Ctr Tryz.prog 185 [ptrv b_a_x (Fld.id ((List GTok) × Int × (Str × Int × (TList Str) × (TList Int) × Vh) × Int × Int))] [boxE b_a_x ((a_x.l, a_x.at_, (a_x.m.name, a_x.m.tagging, (TList.mk t_a_x1 a_x.m.names), (TList.mk t_a_x2 a_x.m.types), (Vh.mk v_a_x3 a_x.m.nodes.length)), a_x.e, a_x.p) : ((List GTok) × Int × (Str × Int × (TList Str) × (TList Int) × Vh) × Int × Int)), tokE t_a_x1, tokE t_a_x2, vecE v_a_x3 (a_x.m.nodes : List GNode)] (fun R H => ∃ u1 : Tok, ∃ u2 : Tok, R = oneOf [isv (r.1)] ∧ H = [boxE b_a_x ((r.2.l, r.2.at_, (r.2.m.name, r.2.m.tagging, (TList.mk u1 r.2.m.names), (TList.mk u2 r.2.m.types), (Vh.mk v_a_x3 r.2.m.nodes.length)), r.2.e, r.2.p)), tokE u1, tokE u2, vecE v_a_x3 (r.2.m.nodes)]) := by
 intro a_x b_a_x t_a_x1 t_a_x2 v_a_x3 r h
 unfold r05_parser_value at h
 refine spec_intro Tryz.func185 rfl (by decide +kernel) (by rfl) fun w0 S0 hT => ?_
 refine wsr (oT (t_alloc _ ze46 fun b4 => rnf (wsr (oM rfl ?_))))
 refine cal_inv h fun y5 hy5 h => oT (t_call (r05_parser_now_w hy5) hT (.same rfl .nil) (.cons (.there .here) (.cons (.there .here) (.cons (.there .here) (.cons (.there .here) .nil)))) (fun R H' hR => ?_))
 obtain ⟨t6, t7, rfl, rfl⟩ := hR
 refine oT (t_alloc _ ze133 fun b8 => oT (t_storeC (y' := (y5.1 : GTok)) ty133 rfl rfl (fun _ _ h => h) .here rfl (rl_upd (upd_imm 3 .here rfl) (rnf (w_seq ?_)))))
 refine w_J (ι := GPar) (γ := Tok × Tok) (fun q9 g9 => []) (fun q9 g9 => [boxE b_a_x ((q9.l, q9.at_, (q9.m.name, q9.m.tagging, (TList.mk g9.1 q9.m.names), (TList.mk g9.2 q9.m.types), (Vh.mk v_a_x3 q9.m.nodes.length)), q9.e, q9.p) : ((List GTok) × Int × (Str × Int × (TList Str) × (TList Int) × Vh) × Int × Int)), tokE g9.1, tokE g9.2, vecE v_a_x3 (q9.m.nodes : List GNode)]) (.cons .here (.cons .here (.cons .here (.cons .here .nil)))) h (fun q9 g9 h => ?_) (fun J10 h hJ10 => ?_)
 ·
  refine wsr (oV (v_build (z := (Val.mk (0 : Int) (0 : Int) ([] : (List UInt8)) ([] : (List Val)) (0 : Int) ([] : (List Raw)))) rfl bu46 ze46 .nil) (oT (t_storeC (y' := ((Val.mk (0 : Int) (0 : Int) ([] : (List UInt8)) ([] : (List Val)) (0 : Int) ([] : (List Raw))) : Val)) ty46 rfl rfl (fun _ _ h => h) (.there (.there (.there (.there .here)))) rfl (rnf (w_ret ?_)))))
  refine ret_post (.cell rfl .here ty46 .nil) (.cons (.there .here) (.cons (.there .here) (.cons (.there .here) (.cons (.there .here) .nil)))) ?_
  obtain rfl := Option.some.inj h
  exact ⟨g9.1, g9.2, rfl, rfl⟩
 ·
  refine w_block (wsr (oM rfl (oV (v_nilCheck rfl) (oV (v_fa rfl pt129_0_3 fd129_3) ?_))))
  refine oT (t_loadC (R := isv (y5.2.e)) ty65 rfl .here (fun _ _ h => h) (oV (v_neq rfl rfl) (oA rfl (rnf (w_condM h rfl (fun _ h => ?_) (fun _ h => ?_))))))
  ·
   exact w_skip (fin_block (hJ10 _ (t6, t7) h _ (join_imp 6 rfl rfl mod_nil (.cons .here (.cons .here (.cons .here (.cons .here (.cons .here .nil))))))))
  ·
   refine wsr (oM rfl (cal_inv h fun y11 hy11 h => oT (t_call (r05_parser_is_w hy11) hT (.same rfl (.same rfl .nil)) (.cons .here (.cons .here (.cons .here (.cons .here .nil)))) (fun R H' hR => ?_))))
   obtain ⟨t12, t13, rfl, rfl⟩ := hR
   refine oA rfl (rnf (w_condM h rfl (fun _ h => ?_) (fun _ h => ?_)))
   ·
    refine wsr (oV (v_build (z := (Val.mk (1 : Int) (1 : Int) ([] : (List UInt8)) ([] : (List Val)) (0 : Int) ([] : (List Raw)))) rfl bu46 ze46 (.cons Val.f0 fd46_0 rfl (fun _ _ h => h) (.cons Val.f1 fd46_1 rfl (fun _ _ h => h) .nil))) (oT (t_storeC (y' := ((Val.mk (1 : Int) (1 : Int) ([] : (List UInt8)) ([] : (List Val)) (0 : Int) ([] : (List Raw))) : Val)) ty46 rfl rfl (fun _ _ h => h) (.there (.there (.there (.there .here)))) rfl (rnf (w_ret ?_)))))
    refine ret_block (ret_nxt (ret_post (.cell rfl .here ty46 .nil) (.cons (.there .here) (.cons (.there .here) (.cons (.there .here) (.cons (.there .here) .nil)))) ?_))
    obtain rfl := Option.some.inj h
    exact ⟨t12, t13, rfl, rfl⟩
   ·
    refine wsr (oM rfl (cal_inv h fun y14 hy14 h => oT (t_call (r05_parser_is_w hy14) hT (.same rfl (.same rfl .nil)) (.cons .here (.cons .here (.cons .here (.cons .here .nil)))) (fun R H' hR => ?_))))
    obtain ⟨t15, t16, rfl, rfl⟩ := hR
    refine oA rfl (rnf (w_condM h rfl (fun _ h => ?_) (fun _ h => ?_)))
    ·
     refine wsr (oV (v_build (z := (Val.mk (1 : Int) (0 : Int) ([] : (List UInt8)) ([] : (List Val)) (0 : Int) ([] : (List Raw)))) rfl bu46 ze46 (.cons Val.f0 fd46_0 rfl (fun _ _ h => h) .nil)) (oT (t_storeC (y' := ((Val.mk (1 : Int) (0 : Int) ([] : (List UInt8)) ([] : (List Val)) (0 : Int) ([] : (List Raw))) : Val)) ty46 rfl rfl (fun _ _ h => h) (.there (.there (.there (.there .here)))) rfl (rnf (w_ret ?_)))))
     refine ret_block (ret_nxt (ret_post (.cell rfl .here ty46 .nil) (.cons (.there .here) (.cons (.there .here) (.cons (.there .here) (.cons (.there .here) .nil)))) ?_))
     obtain rfl := Option.some.inj h
     exact ⟨t15, t16, rfl, rfl⟩
    ·
     refine wsr (oM rfl (cal_inv h fun y17 hy17 h => oT (t_call (r05_parser_is_w hy17) hT (.same rfl (.same rfl .nil)) (.cons .here (.cons .here (.cons .here (.cons .here .nil)))) (fun R H' hR => ?_))))
     obtain ⟨t18, t19, rfl, rfl⟩ := hR
     refine oA rfl (rnf (w_condM h rfl (fun _ h => ?_) (fun _ h => ?_)))
     ·
      refine wsr (oV (v_build (z := (Val.mk (4 : Int) (0 : Int) ([] : (List UInt8)) ([] : (List Val)) (0 : Int) ([] : (List Raw)))) rfl bu46 ze46 (.cons Val.f0 fd46_0 rfl (fun _ _ h => h) .nil)) (oT (t_storeC (y' := ((Val.mk (4 : Int) (0 : Int) ([] : (List UInt8)) ([] : (List Val)) (0 : Int) ([] : (List Raw))) : Val)) ty46 rfl rfl (fun _ _ h => h) (.there (.there (.there (.there .here)))) rfl (rnf (w_ret ?_)))))
      refine ret_block (ret_nxt (ret_post (.cell rfl .here ty46 .nil) (.cons (.there .here) (.cons (.there .here) (.cons (.there .here) (.cons (.there .here) .nil)))) ?_))
      obtain rfl := Option.some.inj h
      exact ⟨t18, t19, rfl, rfl⟩
     ·
      refine wsr (oV (v_fi rfl GTok.f0 fd133_0 rfl (z := y5.1.kind)) (oV (v_loadI ty3 rfl) (oV (v_eql rfl rfl) (oA rfl ?_))))
      refine rnf (w_condM h rfl (fun _ h => ?_) (fun _ h => ?_))
      ·
       refine wsr (oM rfl (cal_inv h fun y20 hy20 h => oT (t_call (r05_parser_next_w hy20) hT (.same rfl .nil) (.cons .here (.cons .here (.cons .here (.cons .here .nil)))) (fun R H' hR => ?_))))
       obtain ⟨t21, t22, rfl, rfl⟩ := hR
       refine oV (v_field GTok.f1 rfl fd133_1 rfl) (cal_inv h fun y23 hy23 h => oT (t_call (r05_Whole_w hy23) hT (.same rfl .nil) .nil (fun R H' hR => ?_)))
       obtain ⟨rfl, rfl⟩ := hR
       refine oV (v_build (z := (Val.mk (2 : Int) y23 ([] : (List UInt8)) ([] : (List Val)) (0 : Int) ([] : (List Raw)))) rfl bu46 ze46 (.cons Val.f0 fd46_0 rfl (fun _ _ h => h) (.cons Val.f1 fd46_1 rfl (fun _ _ h => h) .nil))) (oT (t_storeC (y' := ((Val.mk (2 : Int) y23 ([] : (List UInt8)) ([] : (List Val)) (0 : Int) ([] : (List Raw))) : Val)) ty46 rfl rfl (fun _ _ h => h) (.there (.there (.there (.there .here)))) rfl (rnf (w_ret (ret_block ?_)))))
       refine ret_nxt (ret_post (.cell rfl .here ty46 .nil) (.cons (.there .here) (.cons (.there .here) (.cons (.there .here) (.cons (.there .here) .nil)))) ?_)
       obtain rfl := Option.some.inj h
       exact ⟨t21, t22, rfl, rfl⟩
      ·
       refine wsr (oV (v_fi rfl GTok.f0 fd133_0 rfl (z := y5.1.kind)) (oV (v_loadI ty3 rfl) (oV (v_eql rfl rfl) (oA rfl ?_))))
       refine rnf (w_condM h rfl (fun _ h => ?_) (fun _ h => ?_))
       ·
        refine wsr (oM rfl (cal_inv h fun y24 hy24 h => oT (t_call (r05_parser_next_w hy24) hT (.same rfl .nil) (.cons .here (.cons .here (.cons .here (.cons .here .nil)))) (fun R H' hR => ?_))))
        obtain ⟨t25, t26, rfl, rfl⟩ := hR
        refine oV (v_field GTok.f1 rfl fd133_1 rfl) (asr_inv h fun q27 h => oT (t_sb Tryz.underlying9 Tryz.underlying42 Tryz.underlying5 rfl q27 (oV (v_build (z := (Val.mk (3 : Int) (0 : Int) y24.1.text.b ([] : (List Val)) (0 : Int) ([] : (List Raw)))) rfl bu46 ze46 (.cons Val.f0 fd46_0 rfl (fun _ _ h => h) (.cons Val.f2 fd46_2 rfl (fun _ _ h => h) .nil))) (oT (t_storeC (y' := ((Val.mk (3 : Int) (0 : Int) y24.1.text.b ([] : (List Val)) (0 : Int) ([] : (List Raw))) : Val)) ty46 rfl rfl (fun _ _ h => h) (.there (.there (.there (.there .here)))) rfl ?_)))))
        refine rnf (w_ret (ret_block (ret_nxt (ret_post (.cell rfl .here ty46 .nil) (.cons (.there .here) (.cons (.there .here) (.cons (.there .here) (.cons (.there .here) .nil)))) ?_))))
        obtain rfl := Option.some.inj h
        exact ⟨t25, t26, rfl, rfl⟩
       ·
        refine wsr (oV (v_fi rfl GTok.f0 fd133_0 rfl (z := y5.1.kind)) (oV (v_loadI ty3 rfl) (oV (v_eql rfl rfl) (oA rfl ?_))))
        refine rnf (w_condM h rfl (fun _ h => ?_) (fun _ h => ?_))
        ·
         refine wsr (oM rfl (cal_inv h fun y28 hy28 h => oT (t_call (r05_parser_next_w hy28) hT (.same rfl .nil) (.cons .here (.cons .here (.cons .here (.cons .here .nil)))) (fun R H' hR => ?_))))
         obtain ⟨t29, t30, rfl, rfl⟩ := hR
         refine oV (v_field GTok.f1 rfl fd133_1 rfl) (cal_inv h fun y31 hy31 h => oT (t_call (r05_Hex_w hy31) hT (.same rfl .nil) .nil (fun R H' hR => ?_)))
         obtain ⟨rfl, rfl⟩ := hR
         refine oV (v_build (z := (Val.mk (5 : Int) (0 : Int) y31 ([] : (List Val)) (0 : Int) ([] : (List Raw)))) rfl bu46 ze46 (.cons Val.f0 fd46_0 rfl (fun _ _ h => h) (.cons Val.f2 fd46_2 rfl (fun _ _ h => h) .nil))) (oT (t_storeC (y' := ((Val.mk (5 : Int) (0 : Int) y31 ([] : (List Val)) (0 : Int) ([] : (List Raw))) : Val)) ty46 rfl rfl (fun _ _ h => h) (.there (.there (.there (.there .here)))) rfl (rnf (w_ret (ret_block ?_)))))
         refine ret_nxt (ret_post (.cell rfl .here ty46 .nil) (.cons (.there .here) (.cons (.there .here) (.cons (.there .here) (.cons (.there .here) .nil)))) ?_)
         obtain rfl := Option.some.inj h
         exact ⟨t29, t30, rfl, rfl⟩
        ·
         refine wsr (oV (v_fi rfl GTok.f0 fd133_0 rfl (z := y5.1.kind)) (oV (v_loadI ty3 rfl) (oV (v_eql rfl rfl) (oA rfl ?_))))
         refine rnf (w_condM h rfl (fun _ h => ?_) (fun _ h => ?_))
         ·
          refine wsr (oM rfl (cal_inv h fun y32 hy32 h => oT (t_call (r05_parser_next_w hy32) hT (.same rfl .nil) (.cons .here (.cons .here (.cons .here (.cons .here .nil)))) (fun R H' hR => ?_))))
          obtain ⟨t33, t34, rfl, rfl⟩ := hR
          refine oV (v_field GTok.f1 rfl fd133_1 rfl) (asr_inv h fun q35 h => oT (t_sb Tryz.underlying9 Tryz.underlying42 Tryz.underlying5 rfl q35 (oV (v_build (z := (Val.mk (6 : Int) (0 : Int) y32.1.text.b ([] : (List Val)) (0 : Int) ([] : (List Raw)))) rfl bu46 ze46 (.cons Val.f0 fd46_0 rfl (fun _ _ h => h) (.cons Val.f2 fd46_2 rfl (fun _ _ h => h) .nil))) (oT (t_storeC (y' := ((Val.mk (6 : Int) (0 : Int) y32.1.text.b ([] : (List Val)) (0 : Int) ([] : (List Raw))) : Val)) ty46 rfl rfl (fun _ _ h => h) (.there (.there (.there (.there .here)))) rfl ?_)))))
          refine rnf (w_ret (ret_block (ret_nxt (ret_post (.cell rfl .here ty46 .nil) (.cons (.there .here) (.cons (.there .here) (.cons (.there .here) (.cons (.there .here) .nil)))) ?_))))
          obtain rfl := Option.some.inj h
          exact ⟨t33, t34, rfl, rfl⟩
         ·
          refine w_region (oM rfl (oV (v_loadI ty133 rfl) (cal_inv h fun y36 hy36 h => oT (t_call (r05_parser_fail_w hy36) hT (.same rfl (.same rfl (.same rfl .nil))) (.cons .here (.cons .here (.cons .here (.cons .here .nil)))) (fun R H' hR => ?_)))))
          obtain ⟨t37, t38, rfl, rfl⟩ := hR
          exact rl_nil (fin_block (hJ10 _ (t37, t38) h _ (join_imp 34 rfl rfl mod_nil (.cons .here (.cons .here (.cons .here (.cons .here (.cons .here .nil))))))))

end Go.Proofs.YtnnijoepfgnlfaaGreatDoor


namespace Go.Proofs.YtnnijoepfgnlfaaGreatDoor
open Go.Sy
set_option maxRecDepth 4000
def r05_parser_field_C (f' : GPar → GNode → Int → Int → Option (GPar × GNode)) : Prop :=
 ∀ {a_x : GPar} {a_n_ : GNode} {a_depth : Int} {a_group : Int} {b_a_x : Nat} {t_a_x1 : Tok} {t_a_x2 : Tok} {v_a_x3 : Vt} {b_a_n_ : Nat} {t_a_n_4 : Tok} {t_a_n_5 : Tok} {r : GPar × GNode}, f' a_x a_n_ a_depth a_group = some r → Ctr Tryz.prog 173 [ptrv b_a_x (Fld.id ((List GTok) × Int × (Str × Int × (TList Str) × (TList Int) × Vh) × Int × Int)), ptrv b_a_n_ (Fld.id (Int × Str × GMark × GCon × (TList GItem) × (TList GFld) × Int × Bool × Int)), isv (a_depth), isv (a_group)] [boxE b_a_x ((a_x.l, a_x.at_, (a_x.m.name, a_x.m.tagging, (TList.mk t_a_x1 a_x.m.names), (TList.mk t_a_x2 a_x.m.types), (Vh.mk v_a_x3 a_x.m.nodes.length)), a_x.e, a_x.p) : ((List GTok) × Int × (Str × Int × (TList Str) × (TList Int) × Vh) × Int × Int)), tokE t_a_x1, tokE t_a_x2, vecE v_a_x3 (a_x.m.nodes : List GNode), boxE b_a_n_ ((a_n_.kind, a_n_.name, a_n_.mark, a_n_.con, (TList.mk t_a_n_4 a_n_.items), (TList.mk t_a_n_5 a_n_.fields), a_n_.root, a_n_.more, a_n_.of) : (Int × Str × GMark × GCon × (TList GItem) × (TList GFld) × Int × Bool × Int)), tokE t_a_n_4, tokE t_a_n_5] (fun R H => ∃ u1 : Tok, ∃ u2 : Tok, ∃ u3 : Vt, ∃ u4 : Tok, ∃ u5 : Tok, R = oneOf [] ∧ H = [boxE b_a_x ((r.1.l, r.1.at_, (r.1.m.name, r.1.m.tagging, (TList.mk u1 r.1.m.names), (TList.mk u2 r.1.m.types), (Vh.mk u3 r.1.m.nodes.length)), r.1.e, r.1.p)), tokE u1, tokE u2, vecE u3 (r.1.m.nodes), boxE b_a_n_ ((r.2.kind, r.2.name, r.2.mark, r.2.con, (TList.mk u4 r.2.items), (TList.mk u5 r.2.fields), r.2.root, r.2.more, r.2.of)), tokE u4, tokE u5])
def r05_parser_typ_C (f' : GPar → Int → Option (Int × GPar)) : Prop :=
 ∀ {a_x : GPar} {a_depth : Int} {b_a_x : Nat} {t_a_x1 : Tok} {t_a_x2 : Tok} {v_a_x3 : Vt} {r : Int × GPar}, f' a_x a_depth = some r → Ctr Tryz.prog 75 [ptrv b_a_x (Fld.id ((List GTok) × Int × (Str × Int × (TList Str) × (TList Int) × Vh) × Int × Int)), isv (a_depth)] [boxE b_a_x ((a_x.l, a_x.at_, (a_x.m.name, a_x.m.tagging, (TList.mk t_a_x1 a_x.m.names), (TList.mk t_a_x2 a_x.m.types), (Vh.mk v_a_x3 a_x.m.nodes.length)), a_x.e, a_x.p) : ((List GTok) × Int × (Str × Int × (TList Str) × (TList Int) × Vh) × Int × Int)), tokE t_a_x1, tokE t_a_x2, vecE v_a_x3 (a_x.m.nodes : List GNode)] (fun R H => ∃ u1 : Tok, ∃ u2 : Tok, ∃ u3 : Vt, R = oneOf [isv (r.1)] ∧ H = [boxE b_a_x ((r.2.l, r.2.at_, (r.2.m.name, r.2.m.tagging, (TList.mk u1 r.2.m.names), (TList.mk u2 r.2.m.types), (Vh.mk u3 r.2.m.nodes.length)), r.2.e, r.2.p)), tokE u1, tokE u2, vecE u3 (r.2.m.nodes)])
def r05_parser_base_C (f' : GPar → GNode → Int → Option (GPar × GNode)) : Prop :=
 ∀ {a_x : GPar} {a_n_ : GNode} {a_depth : Int} {b_a_x : Nat} {t_a_x1 : Tok} {t_a_x2 : Tok} {v_a_x3 : Vt} {b_a_n_ : Nat} {t_a_n_4 : Tok} {t_a_n_5 : Tok} {r : GPar × GNode}, f' a_x a_n_ a_depth = some r → Ctr Tryz.prog 107 [ptrv b_a_x (Fld.id ((List GTok) × Int × (Str × Int × (TList Str) × (TList Int) × Vh) × Int × Int)), ptrv b_a_n_ (Fld.id (Int × Str × GMark × GCon × (TList GItem) × (TList GFld) × Int × Bool × Int)), isv (a_depth)] [boxE b_a_x ((a_x.l, a_x.at_, (a_x.m.name, a_x.m.tagging, (TList.mk t_a_x1 a_x.m.names), (TList.mk t_a_x2 a_x.m.types), (Vh.mk v_a_x3 a_x.m.nodes.length)), a_x.e, a_x.p) : ((List GTok) × Int × (Str × Int × (TList Str) × (TList Int) × Vh) × Int × Int)), tokE t_a_x1, tokE t_a_x2, vecE v_a_x3 (a_x.m.nodes : List GNode), boxE b_a_n_ ((a_n_.kind, a_n_.name, a_n_.mark, a_n_.con, (TList.mk t_a_n_4 a_n_.items), (TList.mk t_a_n_5 a_n_.fields), a_n_.root, a_n_.more, a_n_.of) : (Int × Str × GMark × GCon × (TList GItem) × (TList GFld) × Int × Bool × Int)), tokE t_a_n_4, tokE t_a_n_5] (fun R H => ∃ u1 : Tok, ∃ u2 : Tok, ∃ u3 : Vt, ∃ u4 : Tok, ∃ u5 : Tok, R = oneOf [] ∧ H = [boxE b_a_x ((r.1.l, r.1.at_, (r.1.m.name, r.1.m.tagging, (TList.mk u1 r.1.m.names), (TList.mk u2 r.1.m.types), (Vh.mk u3 r.1.m.nodes.length)), r.1.e, r.1.p)), tokE u1, tokE u2, vecE u3 (r.1.m.nodes), boxE b_a_n_ ((r.2.kind, r.2.name, r.2.mark, r.2.con, (TList.mk u4 r.2.items), (TList.mk u5 r.2.fields), r.2.root, r.2.more, r.2.of)), tokE u4, tokE u5])
def r05_parser_fields_C (f' : GPar → GNode → Int → Option (GPar × GNode)) : Prop :=
 ∀ {a_x : GPar} {a_n_ : GNode} {a_depth : Int} {b_a_x : Nat} {t_a_x1 : Tok} {t_a_x2 : Tok} {v_a_x3 : Vt} {b_a_n_ : Nat} {t_a_n_4 : Tok} {t_a_n_5 : Tok} {r : GPar × GNode}, f' a_x a_n_ a_depth = some r → Ctr Tryz.prog 149 [ptrv b_a_x (Fld.id ((List GTok) × Int × (Str × Int × (TList Str) × (TList Int) × Vh) × Int × Int)), ptrv b_a_n_ (Fld.id (Int × Str × GMark × GCon × (TList GItem) × (TList GFld) × Int × Bool × Int)), isv (a_depth)] [boxE b_a_x ((a_x.l, a_x.at_, (a_x.m.name, a_x.m.tagging, (TList.mk t_a_x1 a_x.m.names), (TList.mk t_a_x2 a_x.m.types), (Vh.mk v_a_x3 a_x.m.nodes.length)), a_x.e, a_x.p) : ((List GTok) × Int × (Str × Int × (TList Str) × (TList Int) × Vh) × Int × Int)), tokE t_a_x1, tokE t_a_x2, vecE v_a_x3 (a_x.m.nodes : List GNode), boxE b_a_n_ ((a_n_.kind, a_n_.name, a_n_.mark, a_n_.con, (TList.mk t_a_n_4 a_n_.items), (TList.mk t_a_n_5 a_n_.fields), a_n_.root, a_n_.more, a_n_.of) : (Int × Str × GMark × GCon × (TList GItem) × (TList GFld) × Int × Bool × Int)), tokE t_a_n_4, tokE t_a_n_5] (fun R H => ∃ u1 : Tok, ∃ u2 : Tok, ∃ u3 : Vt, ∃ u4 : Tok, ∃ u5 : Tok, R = oneOf [] ∧ H = [boxE b_a_x ((r.1.l, r.1.at_, (r.1.m.name, r.1.m.tagging, (TList.mk u1 r.1.m.names), (TList.mk u2 r.1.m.types), (Vh.mk u3 r.1.m.nodes.length)), r.1.e, r.1.p)), tokE u1, tokE u2, vecE u3 (r.1.m.nodes), boxE b_a_n_ ((r.2.kind, r.2.name, r.2.mark, r.2.con, (TList.mk u4 r.2.items), (TList.mk u5 r.2.fields), r.2.root, r.2.more, r.2.of)), tokE u4, tokE u5])
theorem r05_parser_field_w0 {r05_parser_field' : GPar → GNode → Int → Int → Option (GPar × GNode)} {r05_parser_typ' : GPar → Int → Option (Int × GPar)} {r05_parser_base' : GPar → GNode → Int → Option (GPar × GNode)} {r05_parser_fields' : GPar → GNode → Int → Option (GPar × GNode)} (h_r05_parser_field : r05_parser_field_C r05_parser_field') (h_r05_parser_typ : r05_parser_typ_C r05_parser_typ') (h_r05_parser_base : r05_parser_base_C r05_parser_base') (h_r05_parser_fields : r05_parser_fields_C r05_parser_fields') : ∀ {a_x : GPar} {a_n_ : GNode} {a_depth : Int} {a_group : Int} {b_a_x : Nat} {t_a_x1 : Tok} {t_a_x2 : Tok} {v_a_x3 : Vt} {b_a_n_ : Nat} {t_a_n_4 : Tok} {t_a_n_5 : Tok} {r : GPar × GNode}, r05_parser_field_F r05_parser_field' r05_parser_typ' r05_parser_base' r05_parser_fields' a_x a_n_ a_depth a_group = some r → Ctr Tryz.prog 173 [ptrv b_a_x (Fld.id ((List GTok) × Int × (Str × Int × (TList Str) × (TList Int) × Vh) × Int × Int)), ptrv b_a_n_ (Fld.id (Int × Str × GMark × GCon × (TList GItem) × (TList GFld) × Int × Bool × Int)), isv (a_depth), isv (a_group)] [boxE b_a_x ((a_x.l, a_x.at_, (a_x.m.name, a_x.m.tagging, (TList.mk t_a_x1 a_x.m.names), (TList.mk t_a_x2 a_x.m.types), (Vh.mk v_a_x3 a_x.m.nodes.length)), a_x.e, a_x.p) : ((List GTok) × Int × (Str × Int × (TList Str) × (TList Int) × Vh) × Int × Int)), tokE t_a_x1, tokE t_a_x2, vecE v_a_x3 (a_x.m.nodes : List GNode), boxE b_a_n_ ((a_n_.kind, a_n_.name, a_n_.mark, a_n_.con, (TList.mk t_a_n_4 a_n_.items), (TList.mk t_a_n_5 a_n_.fields), a_n_.root, a_n_.more, a_n_.of) : (Int × Str × GMark × GCon × (TList GItem) × (TList GFld) × Int × Bool × Int)), tokE t_a_n_4, tokE t_a_n_5] (fun R H => ∃ u1 : Tok, ∃ u2 : Tok, ∃ u3 : Vt, ∃ u4 : Tok, ∃ u5 : Tok, R = oneOf [] ∧ H = [boxE b_a_x ((r.1.l, r.1.at_, (r.1.m.name, r.1.m.tagging, (TList.mk u1 r.1.m.names), (TList.mk u2 r.1.m.types), (Vh.mk u3 r.1.m.nodes.length)), r.1.e, r.1.p)), tokE u1, tokE u2, vecE u3 (r.1.m.nodes), boxE b_a_n_ ((r.2.kind, r.2.name, r.2.mark, r.2.con, (TList.mk u4 r.2.items), (TList.mk u5 r.2.fields), r.2.root, r.2.more, r.2.of)), tokE u4, tokE u5]) := by
 intro a_x a_n_ a_depth a_group b_a_x t_a_x1 t_a_x2 v_a_x3 b_a_n_ t_a_n_4 t_a_n_5 r h
 unfold r05_parser_field_F at h
 refine spec_intro Tryz.func173 rfl (by decide +kernel) (by rfl) fun w0 S0 hT => ?_
 refine wsr (oM rfl (cal_inv h fun y6 hy6 h => oT (t_call (r05_parser_kind_w hy6) hT (.same rfl (.same rfl .nil)) (.cons .here (.cons .here (.cons .here (.cons .here .nil)))) (fun R H' hR => ?_))))
 obtain ⟨t7, t8, rfl, rfl⟩ := hR
 refine oM rfl (oV (v_build (z := (GFld.mk y6.1 (0 : Int) false false (Val.mk (0 : Int) (0 : Int) ([] : (List UInt8)) ([] : (List Val)) (0 : Int) ([] : (List Raw))) a_group)) rfl bu92 ze92 (.cons GFld.f0 fd92_0 rfl (fun _ _ h => h) (.cons GFld.f5 fd92_5 rfl (fun _ _ h => h) .nil))) (oT (t_alloc _ ze92 fun b9 => oT (t_storeC (y' := ((GFld.mk y6.1 (0 : Int) false false (Val.mk (0 : Int) (0 : Int) ([] : (List UInt8)) ([] : (List Val)) (0 : Int) ([] : (List Raw))) a_group) : GFld)) ty92 rfl rfl (fun _ _ h => h) .here rfl (rnf ?_)))))
 refine wsr (oM rfl (oM rfl (ck_inv h fun q10 h => oV (v_add rfl rfl q10) ?_)))
 refine cal_inv h fun y11 hy11 h => oT (t_call (h_r05_parser_typ hy11) hT (.same rfl (.same rfl .nil)) (.cons (.there .here) (.cons (.there .here) (.cons (.there .here) (.cons (.there .here) .nil)))) (fun R H' hR => ?_))
 obtain ⟨t12, t13, v14, rfl, rfl⟩ := hR
 refine oV (v_fa rfl GFld.f1 fd92_1) (oT (t_storeC (y' := ((GFld.mk y6.1 y11.1 false false (Val.mk (0 : Int) (0 : Int) ([] : (List UInt8)) ([] : (List Val)) (0 : Int) ([] : (List Raw))) a_group) : GFld)) ty3 rfl rfl (fun _ _ h => h) (.there (.there (.there (.there .here)))) rfl (rnf (w_seq ?_))))
 refine w_J (ι := GFld × GPar) (γ := Tok × Tok) (fun q15 g15 => []) (fun q15 g15 => [boxE b9 (q15.1 : GFld), boxE b_a_x ((q15.2.l, q15.2.at_, (q15.2.m.name, q15.2.m.tagging, (TList.mk g15.1 q15.2.m.names), (TList.mk g15.2 q15.2.m.types), (Vh.mk v14 q15.2.m.nodes.length)), q15.2.e, q15.2.p) : ((List GTok) × Int × (Str × Int × (TList Str) × (TList Int) × Vh) × Int × Int)), tokE g15.1, tokE g15.2, vecE v14 (q15.2.m.nodes : List GNode)]) (.cons .here (.cons .here (.cons .here (.cons .here (.cons .here .nil))))) h (fun q15 g15 h => ?_) (fun J16 h hJ16 => ?_)
 ·
  refine w_pinN 8 .here rfl (fun o26 hn27 => w_regionD (.v 0 (.v 1 (.v 2 (.v 3 (.v 5 (.alt 4 (.t 6 (.t 7 (.v 8 (.v 9 (.t 10 .nil))))) (.t 6 (.t 4 (.t 7 (.v 8 (.v 9 (.t 10 .nil)))))))))))) moOrd (by kernel_rfl) ?_)
  refine rvm rfl rfl (rvm rfl rfl (rd_v rfl (v_nilCheck rfl) (rd_v rfl (v_fa rfl pt167_0_5 fd167_5) (rd_v rfl (v_lpC (R := isv (q15.1)) ty92 rfl (List.Mem.head _) (fun _ _ h => h)) ?_))))
  refine asr_inv h fun q30 h => rd_two ?_ ?_
  ·
   refine rd_t rfl rfl (t_loadC (R := appv t_a_n_5 (a_n_.fields)) ty85 rfl (.there (.there (.there (.there .here)))) isvT1 (rd_t rfl rfl (t_buildSlice (l := ([q15.1] : (List GFld))) el85 (.cons rfl (fun _ _ h => h) .nil) rfl rfl (rd_t rfl rfl (t_appC (l := a_n_.fields) (m := ([q15.1] : (List GFld))) ap85_85 rfl (fun _ _ h => h) rfl appv_isv (.there (.there (.there (.there (.there (.there .here)))))) q30 fun t29 => rd_v rfl (v_nilCheck rfl) (rd_v rfl (v_fa rfl pt167_0_5 fd167_5) ?_))))))
   refine rd_t rfl rfl (t_storeC (y' := ((a_n_.kind, a_n_.name, a_n_.mark, a_n_.con, (TList.mk t_a_n_4 a_n_.items), (TList.mk t29 (a_n_.fields ++ ([q15.1] : (List GFld)))), a_n_.root, a_n_.more, a_n_.of) : (Int × Str × GMark × GCon × (TList GItem) × (TList GFld) × Int × Bool × Int))) ty85 rfl rfl isvT2 (.there (.there (.there (.there (.there .here))))) rfl (rd_nil (fin_unpinN 8 hn27 rfl (fin_post .nil (.cons (.there (.there (.there .here))) (.cons (.there (.there (.there .here))) (.cons (.there (.there (.there .here))) (.cons (.there (.there (.there .here))) (.cons (.there .here) (.cons (.there (.there .here)) (.cons (.there .here) .nil))))))) ?_))))
   obtain rfl := Option.some.inj h
   exact ⟨g15.1, g15.2, v14, t_a_n_4, t29, rfl, rfl⟩
  ·
   refine rd_t rfl rfl (t_buildSlice (l := ([q15.1] : (List GFld))) el85 (.cons rfl (fun _ _ h => h) .nil) rfl rfl (rd_t rfl rfl (t_loadC (R := appv t_a_n_5 (a_n_.fields)) ty85 rfl (.there (.there (.there (.there .here)))) isvT1 (rd_t rfl rfl (t_appC (l := a_n_.fields) (m := ([q15.1] : (List GFld))) ap85_85 rfl (fun _ _ h => h) rfl appv_isv (.there (.there (.there (.there (.there (.there .here)))))) q30 fun t32 => rd_v rfl (v_nilCheck rfl) (rd_v rfl (v_fa rfl pt167_0_5 fd167_5) ?_))))))
   refine rd_t rfl rfl (t_storeC (y' := ((a_n_.kind, a_n_.name, a_n_.mark, a_n_.con, (TList.mk t_a_n_4 a_n_.items), (TList.mk t32 (a_n_.fields ++ ([q15.1] : (List GFld)))), a_n_.root, a_n_.more, a_n_.of) : (Int × Str × GMark × GCon × (TList GItem) × (TList GFld) × Int × Bool × Int))) ty85 rfl rfl isvT2 (.there (.there (.there (.there (.there .here))))) rfl (rd_nil (fin_unpinN 8 hn27 rfl (fin_post .nil (.cons (.there (.there (.there .here))) (.cons (.there (.there (.there .here))) (.cons (.there (.there (.there .here))) (.cons (.there (.there (.there .here))) (.cons (.there .here) (.cons (.there (.there .here)) (.cons (.there .here) .nil))))))) ?_))))
   obtain rfl := Option.some.inj h
   exact ⟨g15.1, g15.2, v14, t_a_n_4, t32, rfl, rfl⟩
 ·
  refine w_block (wsr (oM rfl (oV (v_nilCheck rfl) (oV (v_fa rfl pt167_0_0 fd167_0) ?_))))
  refine oT (t_loadC (R := isv (a_n_.kind)) ty3 rfl (.there (.there (.there (.there (.there .here))))) (fun _ _ h => h) (oV (v_eql rfl rfl) (oA rfl (rnf (w_condM h rfl (fun _ h => ?_) (fun _ h => ?_))))))
  ·
   exact w_skip (fin_block (hJ16 _ (t12, t13) h _ (join_imp 6 rfl rfl mod_nil (.cons .here (.cons .here (.cons .here (.cons .here (.cons .here (.cons .here (.cons .here (.cons .here .nil)))))))))))
  ·
   refine wsr (oM rfl (cal_inv h fun y17 hy17 h => oT (t_call (r05_parser_is_w hy17) hT (.same rfl (.same rfl .nil)) (.cons (.there .here) (.cons (.there .here) (.cons (.there .here) (.cons (.there .here) .nil)))) (fun R H' hR => ?_))))
   obtain ⟨t18, t19, rfl, rfl⟩ := hR
   refine oA rfl (rnf (w_condM h rfl (fun _ h => ?_) (fun _ h => ?_)))
   ·
    refine w_region (oV (v_fa rfl GFld.f2 fd92_2) (oT (t_storeC (y' := ((GFld.mk y6.1 y11.1 true false (Val.mk (0 : Int) (0 : Int) ([] : (List UInt8)) ([] : (List Val)) (0 : Int) ([] : (List Raw))) a_group) : GFld)) ty4 rfl rfl (fun _ _ h => h) (.there (.there (.there (.there .here)))) rfl (rl_nil (fin_block ?_)))))
    exact hJ16 _ (t18, t19) h _ (join_imp 10 rfl rfl mod_nil (.cons .here (.cons .here (.cons .here (.cons .here (.cons .here (.cons .here (.cons .here (.cons .here .nil)))))))))
   ·
    refine wsr (oM rfl (cal_inv h fun y20 hy20 h => oT (t_call (r05_parser_is_w hy20) hT (.same rfl (.same rfl .nil)) (.cons .here (.cons .here (.cons .here (.cons .here .nil)))) (fun R H' hR => ?_))))
    obtain ⟨t21, t22, rfl, rfl⟩ := hR
    refine oA rfl (rnf (w_condM h rfl (fun _ h => ?_) (fun _ h => ?_)))
    ·
     refine w_region (oM rfl (cal_inv h fun y23 hy23 h => oT (t_call (r05_parser_value_w hy23) hT (.same rfl .nil) (.cons .here (.cons .here (.cons .here (.cons .here .nil)))) (fun R H' hR => ?_))))
     obtain ⟨t24, t25, rfl, rfl⟩ := hR
     refine oV (v_fa rfl GFld.f3 fd92_3) (oT (t_storeC (y' := ((GFld.mk y6.1 y11.1 false true (Val.mk (0 : Int) (0 : Int) ([] : (List UInt8)) ([] : (List Val)) (0 : Int) ([] : (List Raw))) a_group) : GFld)) ty4 rfl rfl (fun _ _ h => h) (.there (.there (.there (.there .here)))) rfl (oV (v_fa rfl GFld.f4 fd92_4) (oT (t_storeC (y' := ((GFld.mk y6.1 y11.1 false true y23.1 a_group) : GFld)) ty46 rfl rfl (fun _ _ h => h) .here rfl (rl_nil ?_))))))
     exact fin_block (hJ16 _ (t24, t25) h _ (join_imp 16 rfl rfl mod_nil (.cons .here (.cons .here (.cons .here (.cons .here (.cons .here (.cons .here (.cons .here (.cons .here .nil))))))))))
    ·
     exact w_skip (fin_block (hJ16 _ (t21, t22) h _ (join_imp 12 rfl rfl mod_nil (.cons (.there (.there (.there (.there .here)))) (.cons .here (.cons .here (.cons .here (.cons .here (.cons .here (.cons .here (.cons .here .nil)))))))))))

theorem r05_parser_typ_w0 {r05_parser_field' : GPar → GNode → Int → Int → Option (GPar × GNode)} {r05_parser_typ' : GPar → Int → Option (Int × GPar)} {r05_parser_base' : GPar → GNode → Int → Option (GPar × GNode)} {r05_parser_fields' : GPar → GNode → Int → Option (GPar × GNode)} (h_r05_parser_field : r05_parser_field_C r05_parser_field') (h_r05_parser_typ : r05_parser_typ_C r05_parser_typ') (h_r05_parser_base : r05_parser_base_C r05_parser_base') (h_r05_parser_fields : r05_parser_fields_C r05_parser_fields') : ∀ {a_x : GPar} {a_depth : Int} {b_a_x : Nat} {t_a_x1 : Tok} {t_a_x2 : Tok} {v_a_x3 : Vt} {r : Int × GPar}, r05_parser_typ_F r05_parser_field' r05_parser_typ' r05_parser_base' r05_parser_fields' a_x a_depth = some r → Ctr Tryz.prog 75 [ptrv b_a_x (Fld.id ((List GTok) × Int × (Str × Int × (TList Str) × (TList Int) × Vh) × Int × Int)), isv (a_depth)] [boxE b_a_x ((a_x.l, a_x.at_, (a_x.m.name, a_x.m.tagging, (TList.mk t_a_x1 a_x.m.names), (TList.mk t_a_x2 a_x.m.types), (Vh.mk v_a_x3 a_x.m.nodes.length)), a_x.e, a_x.p) : ((List GTok) × Int × (Str × Int × (TList Str) × (TList Int) × Vh) × Int × Int)), tokE t_a_x1, tokE t_a_x2, vecE v_a_x3 (a_x.m.nodes : List GNode)] (fun R H => ∃ u1 : Tok, ∃ u2 : Tok, ∃ u3 : Vt, R = oneOf [isv (r.1)] ∧ H = [boxE b_a_x ((r.2.l, r.2.at_, (r.2.m.name, r.2.m.tagging, (TList.mk u1 r.2.m.names), (TList.mk u2 r.2.m.types), (Vh.mk u3 r.2.m.nodes.length)), r.2.e, r.2.p)), tokE u1, tokE u2, vecE u3 (r.2.m.nodes)]) := by
 intro a_x a_depth b_a_x t_a_x1 t_a_x2 v_a_x3 r h
 unfold r05_parser_typ_F at h
 refine spec_intro Tryz.func75 rfl (by decide +kernel) (by rfl) fun w0 S0 hT => ?_
 refine wsr (oA rfl (rnf (w_seq (wsr ?_))))
 refine oM rfl (oV (v_nilCheck rfl) (oV (v_fa rfl pt129_0_3 fd129_3) (oT (t_loadC (R := isv (a_x.e)) ty65 rfl .here (fun _ _ h => h) (oV (v_neq rfl rfl) ?_)))))
 refine rnf (w_condM h rfl (fun _ h => ?_) (fun _ h => ?_))
 ·
  refine wsr (oA rfl (rnf (w_ret (ret_nxt ?_))))
  refine ret_post (.tmp rfl .nil) (.cons .here (.cons .here (.cons .here (.cons .here .nil)))) ?_
  obtain rfl := Option.some.inj h
  exact ⟨t_a_x1, t_a_x2, v_a_x3, rfl, rfl⟩
 ·
  refine wkf (w_seq (wsr (oM rfl (cal_inv h fun y4 hy4 h => ?_))))
  refine oT (t_call (r05_parser_now_w hy4) hT (.same rfl .nil) (.cons .here (.cons .here (.cons .here (.cons .here .nil)))) (fun R H' hR => ?_))
  obtain ⟨t5, t6, rfl, rfl⟩ := hR
  refine cal_inv h fun y7 hy7 h => oT (t_call (r05_begins_w hy7) hT (.same rfl .nil) .nil (fun R H' hR => ?_))
  obtain ⟨rfl, rfl⟩ := hR
  refine oV (v_not rfl) (rnf (w_condM h rfl (fun _ h => ?_) (fun _ h => ?_)))
  ·
   refine wsr (oM rfl (oM rfl (cal_inv h fun y8 hy8 h => oT (t_call (r05_parser_now_w hy8) hT (.same rfl .nil) (.cons .here (.cons .here (.cons .here (.cons .here .nil)))) (fun R H' hR => ?_)))))
   obtain ⟨t9, t10, rfl, rfl⟩ := hR
   refine cal_inv h fun y11 hy11 h => oT (t_call (r05_parser_fail_w hy11) hT (.same rfl (.same rfl (.same rfl .nil))) (.cons .here (.cons .here (.cons .here (.cons .here .nil)))) (fun R H' hR => ?_))
   obtain ⟨t12, t13, rfl, rfl⟩ := hR
   refine rnf (wsr (oA rfl (rnf (w_ret ?_))))
   refine ret_nxt (ret_post (.tmp rfl .nil) (.cons .here (.cons .here (.cons .here (.cons .here .nil)))) ?_)
   obtain rfl := Option.some.inj h
   exact ⟨t12, t13, v_a_x3, rfl, rfl⟩
  ·
   refine wkf (w_seq (wsr (oM rfl (oV (v_gtr rfl rfl) ?_))))
   refine oM rfl (rl_j (jb 32) je .nil h 8 rfl (fun q14 g14 h => ?_) (fun J15 h hJ15 => ?_))
   ·
    refine rnf (w_condM h rfl (fun _ h => ?_) (fun _ h => ?_))
    ·
     refine wsr (oM rfl (oM rfl (cal_inv h fun y17 hy17 h => oT (t_call (r05_parser_now_w hy17) hT (.same rfl .nil) (.cons .here (.cons .here (.cons .here (.cons .here .nil)))) (fun R H' hR => ?_)))))
     obtain ⟨t18, t19, rfl, rfl⟩ := hR
     refine cal_inv h fun y20 hy20 h => oT (t_call (r05_parser_fail_w hy20) hT (.same rfl (.same rfl (.same rfl .nil))) (.cons .here (.cons .here (.cons .here (.cons .here .nil)))) (fun R H' hR => ?_))
     obtain ⟨t21, t22, rfl, rfl⟩ := hR
     refine rnf (wsr (oA rfl (rnf (w_ret ?_))))
     refine ret_nxt (ret_post (.tmp rfl .nil) (.cons .here (.cons .here (.cons .here (.cons .here .nil)))) ?_)
     obtain rfl := Option.some.inj h
     exact ⟨t21, t22, v_a_x3, rfl, rfl⟩
    ·
     refine wkf (wsr (oM rfl (oV (v_nilCheck rfl) (oV (v_fa rfl pt129_0_2 fd129_2) ?_))))
     refine oV (v_fa rfl pt73_0_4 fd73_4) (oT (t_loadC (R := vecv v_a_x3 (y4.2.m.nodes.length)) ty71 rfl .here isvV1 (oV (v_vlen sl71 rfl) (oA rfl (rnf ?_)))))
     refine wsr (oM rfl (oM rfl (oV (v_nilCheck rfl) (oV (v_fa rfl pt129_0_2 fd129_2) ?_))))
     refine oV (v_fa rfl pt73_0_4 fd73_4) (oT (t_loadC (R := vecv v_a_x3 (y4.2.m.nodes.length)) ty71 rfl .here isvV1 (oV (v_build (z := (GNode.mk (0 : Int) (Str.mk []) (GMark.mk false (0 : Int) (0 : Int)) (GCon.mk false false false false (0 : Int) (0 : Int)) ([] : (List GItem)) ([] : (List GFld)) (0 : Int) false (0 : Int))) rfl bu167 ze167 .nil) (oT (t_buildSlice (l := ([(GNode.mk (0 : Int) (Str.mk []) (GMark.mk false (0 : Int) (0 : Int)) (GCon.mk false false false false (0 : Int) (0 : Int)) ([] : (List GItem)) ([] : (List GFld)) (0 : Int) false (0 : Int))] : (List GNode))) el71 (.cons rfl (fun _ _ h => h) .nil) rfl rfl (asr_inv h fun q25 h => ?_))))))
     refine oT (t_vappF (m := ([(GNode.mk (0 : Int) (Str.mk []) (GMark.mk false (0 : Int) (0 : Int)) (GCon.mk false false false false (0 : Int) (0 : Int)) ([] : (List GItem)) ([] : (List GFld)) (0 : Int) false (0 : Int))] : (List GNode))) ap71_71 rfl rfl appv_isv (.there (.there (.there .here))) (by first | rfl | simp) q25 fun v24 => ?_)
     refine oV (v_nilCheck rfl) (oV (v_fa rfl pt129_0_2 fd129_2) (oV (v_fa rfl pt73_0_4 fd73_4) (oT (t_storeC (y' := ((y4.2.l, y4.2.at_, (y4.2.m.name, y4.2.m.tagging, (TList.mk t5 y4.2.m.names), (TList.mk t6 y4.2.m.types), (Vh.mk v24 (y4.2.m.nodes ++ ([(GNode.mk (0 : Int) (Str.mk []) (GMark.mk false (0 : Int) (0 : Int)) (GCon.mk false false false false (0 : Int) (0 : Int)) ([] : (List GItem)) ([] : (List GFld)) (0 : Int) false (0 : Int))] : (List GNode))).length)), y4.2.e, y4.2.p) : ((List GTok) × Int × (Str × Int × (TList Str) × (TList Int) × Vh) × Int × Int))) ty71 rfl rfl isvV2 (.there .here) rfl (rnf ?_)))))
     refine wsr (oV (v_build (z := (((0 : Int), (Str.mk []), (GMark.mk false (0 : Int) (0 : Int)), (GCon.mk false false false false (0 : Int) (0 : Int)), (TList.mk none ([] : (List GItem))), (TList.mk none ([] : (List GFld))), (0 : Int), false, (0 : Int)) : (Int × Str × GMark × GCon × (TList GItem) × (TList GFld) × Int × Bool × Int))) rfl bu167 zt167_1 .nil) (oT (t_alloc _ zt167_1 fun b26 => rl_upd (upd_tok) (rl_upd (upd_tok) ?_))))
     refine rl_upd (upd_tok) (rl_upd (upd_tok) (oT (t_storeC (y' := (((0 : Int), (Str.mk []), (GMark.mk false (0 : Int) (0 : Int)), (GCon.mk false false false false (0 : Int) (0 : Int)), (TList.mk none ([] : (List GItem))), (TList.mk none ([] : (List GFld))), (0 : Int), false, (0 : Int)) : (Int × Str × GMark × GCon × (TList GItem) × (TList GFld) × Int × Bool × Int))) ty167 rfl rfl (fun _ _ h => h) (.there (.there (.there (.there .here)))) rfl (rnf (w_seq ?_)))))
     refine wsr (oM rfl (cal_inv h fun y31 hy31 h => oT (t_call (r05_parser_is_w hy31) hT (.same rfl (.same rfl .nil)) (.cons (.there (.there (.there (.there (.there .here))))) (.cons (.there (.there (.there (.there (.there (.there .here)))))) (.cons (.there (.there (.there (.there (.there (.there .here)))))) (.cons (.there (.there (.there (.there (.there .here))))) .nil)))) (fun R H' hR => ?_))))
     obtain ⟨t32, t33, rfl, rfl⟩ := hR
     refine rnf ?_
     refine w_J (ι := GPar × GNode) (γ := Tok × Tok × Tok × Tok) (fun q34 g34 => []) (fun q34 g34 => [boxE b_a_x ((q34.1.l, q34.1.at_, (q34.1.m.name, q34.1.m.tagging, (TList.mk g34.1 q34.1.m.names), (TList.mk g34.2.1 q34.1.m.types), (Vh.mk v24 q34.1.m.nodes.length)), q34.1.e, q34.1.p) : ((List GTok) × Int × (Str × Int × (TList Str) × (TList Int) × Vh) × Int × Int)), tokE g34.1, tokE g34.2.1, vecE v24 (q34.1.m.nodes : List GNode), boxE b26 ((q34.2.kind, q34.2.name, q34.2.mark, q34.2.con, (TList.mk g34.2.2.1 q34.2.items), (TList.mk g34.2.2.2 q34.2.fields), q34.2.root, q34.2.more, q34.2.of) : (Int × Str × GMark × GCon × (TList GItem) × (TList GFld) × Int × Bool × Int)), tokE g34.2.2.1, tokE g34.2.2.2]) (.cons .here (.cons (.there (.there (.there .here))) (.cons .here (.cons .here (.cons .here (.cons .here (.cons .here .nil))))))) h (fun q34 g34 h => ?_) (fun J35 h hJ35 => ?_)
     ·
      refine wsr (oM rfl (oM rfl (cal_inv h fun y63 hy63 h => oT (t_call (h_r05_parser_base hy63) hT (.same rfl (.same rfl (.same rfl .nil))) (.cons .here (.cons .here (.cons .here (.cons .here (.cons .here (.cons .here (.cons .here .nil))))))) (fun R H' hR => ?_)))))
      obtain ⟨t64, t65, v66, t67, t68, rfl, rfl⟩ := hR
      refine rnf (w_seq (wsr (oM rfl (oV (v_nilCheck rfl) ?_))))
      refine oV (v_fa rfl pt129_0_3 fd129_3) (oT (t_loadC (R := isv (y63.1.e)) ty65 rfl .here (fun _ _ h => h) (oV (v_neq rfl rfl) (rnf (w_condM h rfl (fun _ h => ?_) (fun _ h => ?_))))))
      ·
       refine wsr (oA rfl (rnf (w_ret (ret_nxt ?_))))
       refine ret_post (.tmp rfl .nil) (.cons .here (.cons .here (.cons .here (.cons .here .nil)))) ?_
       obtain rfl := Option.some.inj h
       exact ⟨t64, t65, v66, rfl, rfl⟩
      ·
       refine wkf (w_seq (w_pinN 6 (.there (.there (.there (.there .here)))) rfl (fun o69 hn70 => w_pinN 0 .here rfl (fun o71 hn72 => w_regionD (.v 0 (.v 1 (.v 2 (.v 3 (.v 4 (.v 5 (.v 6 (.v 7 (.t 8 .nil))))))))) moOrd (by kernel_rfl) ?_))))
       refine rvm rfl rfl (rd_v rfl (v_nilCheckP rfl) (rd_v rfl (v_fp rfl pt129_0_2 fd129_2) (rd_v rfl (v_fp rfl pt73_0_4 fd73_4) (rd_v rfl (v_lpC (R := vecv v66 (y63.1.m.nodes.length)) ty71 rfl (List.Mem.head _) isvV1) ?_))))
       refine rvm rfl rfl (rd_v rfl (v_lpC (R := isv (((y63.2.kind, y63.2.name, y63.2.mark, y63.2.con, (TList.mk t67 y63.2.items), (TList.mk t68 y63.2.fields), y63.2.root, y63.2.more, y63.2.of)) : ((Int × Str × GMark × GCon × (TList GItem) × (TList GFld) × Int × Bool × Int)))) ty167 rfl (List.Mem.tail _ (List.Mem.head _)) (fun _ _ h => h)) ?_)
       refine rd_upd (upd_slot (R' := isv (y63.2)) 105 rfl (Cv.isv rfl fun S => (fun cs h => GNode.cv (x := y63.2) cs (((Cv.pair Cv.id (Cv.pair Cv.id (Cv.pair Cv.id (Cv.pair Cv.id (Cv.pair Cv.tl (Cv.pair Cv.tl (Cv.pair Cv.id (Cv.pair Cv.id Cv.id)))))))) : Cv S ((y63.2.kind, y63.2.name, y63.2.mark, y63.2.con, (TList.mk t67 y63.2.items), (TList.mk t68 y63.2.fields), y63.2.root, y63.2.more, y63.2.of) : (Int × Str × GMark × GCon × (TList GItem) × (TList GFld) × Int × Bool × Int)) (GNode.to y63.2)) cs h)))) (asd_inv h fun q73 h => rd_v rfl (v_vidx (α := GNode) sl71 rfl rfl q73.1 q73.2) (cal_inv h fun y74 hy74 h => rd_t rfl rfl (t_vstore ty167 rfl rfl (.there (.there .here)) hy74 ?_)))
       refine rd_nil (fin_unpinN 0 hn72 rfl (fin_upd (upd_box (y := ((y63.1.l, y63.1.at_, (y63.1.m.name, y63.1.m.tagging, (TList.mk t64 y63.1.m.names), (TList.mk t65 y63.1.m.types), (Vh.mk v66 (y63.1.m.nodes.set (((y4.2.m.nodes.length : Nat) : Int).toNat) y63.2).length)), y63.1.e, y63.1.p) : ((List GTok) × Int × (Str × Int × (TList Str) × (TList Int) × Vh) × Int × Int))) .here (fun S => (Cv.pair Cv.id (Cv.pair Cv.id (Cv.pair (Cv.pair Cv.id (Cv.pair Cv.id (Cv.pair Cv.id (Cv.pair Cv.id (Cv.vhe (by first | rfl | simp)))))) (Cv.pair Cv.id Cv.id)))))) ?_))
       refine fin_unpinN 6 hn70 rfl (fin_nxt (wsr (oM rfl (oA rfl ?_))))
       refine rnf (w_ret (ret_post (.tmp rfl .nil) (.cons (.there .here) (.cons (.there (.there .here)) (.cons (.there (.there .here)) (.cons (.there .here) .nil)))) ?_))
       obtain rfl := Option.some.inj h
       exact ⟨t64, t65, v66, rfl, rfl⟩
     ·
      refine w_condM h rfl (fun _ h => ?_) (fun _ h => ?_)
      ·
       refine wsr (oM rfl (cal_inv h fun y36 hy36 h => oT (t_call (r05_parser_now_w hy36) hT (.same rfl .nil) (.cons .here (.cons .here (.cons .here (.cons .here .nil)))) (fun R H' hR => ?_))))
       obtain ⟨t37, t38, rfl, rfl⟩ := hR
       refine oT (t_alloc _ ze133 fun b39 => oT (t_storeC (y' := (y36.1 : GTok)) ty133 rfl rfl (fun _ _ h => h) .here rfl (rl_upd (upd_imm 7 .here rfl) (rnf (wsr ?_)))))
       refine oM rfl (cal_inv h fun y40 hy40 h => oT (t_call (r05_parser_number_w hy40) hT (.same rfl .nil) (.cons .here (.cons .here (.cons .here (.cons .here .nil)))) (fun R H' hR => ?_)))
       obtain ⟨t41, t42, rfl, rfl⟩ := hR
       refine oA rfl (rnf (w_seq (wsr (oM rfl ?_))))
       refine oV (v_nilCheck rfl) (oV (v_fa rfl pt129_0_3 fd129_3) (oT (t_loadC (R := isv (y40.2.e)) ty65 rfl .here (fun _ _ h => h) (oV (v_eql rfl rfl) (oM rfl ?_)))))
       refine rl_j (jb 74) je .nil h 7 rfl (fun q43 g43 h => ?_) (fun J44 h hJ44 => ?_)
       ·
        refine rnf (w_J (ι := GPar) (γ := Tok × Tok) (fun q49 g49 => []) (fun q49 g49 => [boxE b_a_x ((q49.l, q49.at_, (q49.m.name, q49.m.tagging, (TList.mk g49.1 q49.m.names), (TList.mk g49.2 q49.m.types), (Vh.mk v24 q49.m.nodes.length)), q49.e, q49.p) : ((List GTok) × Int × (Str × Int × (TList Str) × (TList Int) × Vh) × Int × Int)), tokE g49.1, tokE g49.2, vecE v24 (q49.m.nodes : List GNode)]) (.cons .here (.cons .here (.cons .here (.cons .here .nil)))) h (fun q49 g49 h => ?_) (fun J50 h hJ50 => ?_))
        ·
         refine wsr (oM rfl (cal_inv h fun y54 hy54 h => oT (t_call (r05_parser_must_w hy54) hT (.same rfl (.same rfl .nil)) (.cons .here (.cons .here (.cons .here (.cons .here .nil)))) (fun R H' hR => ?_))))
         obtain ⟨t55, t56, rfl, rfl⟩ := hR
         refine rnf (wsr (oM rfl (oV (v_build (z := (GMark.mk true y40.1 (0 : Int))) rfl bu165 ze165 (.cons GMark.f0 fd165_0 rfl (fun _ _ h => h) (.cons GMark.f1 fd165_1 rfl (fun _ _ h => h) .nil))) (oV (v_fa rfl pt167_0_2 fd167_2) ?_))))
         refine oT (t_storeC (y' := (((0 : Int), (Str.mk []), (GMark.mk true y40.1 (0 : Int)), (GCon.mk false false false false (0 : Int) (0 : Int)), (TList.mk none ([] : (List GItem))), (TList.mk none ([] : (List GFld))), (0 : Int), false, (0 : Int)) : (Int × Str × GMark × GCon × (TList GItem) × (TList GFld) × Int × Bool × Int))) ty165 rfl rfl (fun _ _ h => h) (.there (.there (.there (.there .here)))) rfl (rnf (wsr (oM rfl (cal_inv h fun y57 hy57 h => ?_)))))
         refine oT (t_call (r05_parser_is_w hy57) hT (.same rfl (.same rfl .nil)) (.cons (.there .here) (.cons (.there .here) (.cons (.there .here) (.cons (.there .here) .nil)))) (fun R H' hR => ?_))
         obtain ⟨t58, t59, rfl, rfl⟩ := hR
         refine rnf (w_condM h rfl (fun _ h => ?_) (fun _ h => ?_))
         ·
          refine w_region (oV (v_fa rfl pt167_0_2 fd167_2) (oV (v_fa rfl GMark.f2 fd165_2) (oT (t_storeC (y' := (((0 : Int), (Str.mk []), (GMark.mk true y40.1 (1 : Int)), (GCon.mk false false false false (0 : Int) (0 : Int)), (TList.mk none ([] : (List GItem))), (TList.mk none ([] : (List GFld))), (0 : Int), false, (0 : Int)) : (Int × Str × GMark × GCon × (TList GItem) × (TList GFld) × Int × Bool × Int))) ty3 rfl rfl (fun _ _ h => h) (.there (.there (.there (.there .here)))) rfl (rl_nil ?_)))))
          exact hJ35 _ (t58, t59, none, none) h _ (join_imp 23 rfl rfl mod_nil (.cons (.there .here) (.cons (.there .here) (.cons (.there .here) (.cons (.there .here) (.cons .here (.cons (.there .here) (.cons .here (.cons .here (.cons .here .nil))))))))))
         ·
          refine wsr (oM rfl (cal_inv h fun y60 hy60 h => oT (t_call (r05_parser_is_w hy60) hT (.same rfl (.same rfl .nil)) (.cons .here (.cons .here (.cons .here (.cons .here .nil)))) (fun R H' hR => ?_))))
          obtain ⟨t61, t62, rfl, rfl⟩ := hR
          refine rnf (w_condM h rfl (fun _ h => ?_) (fun _ h => ?_))
          ·
           refine w_region (oV (v_fa rfl pt167_0_2 fd167_2) (oV (v_fa rfl GMark.f2 fd165_2) (oT (t_storeC (y' := (((0 : Int), (Str.mk []), (GMark.mk true y40.1 (2 : Int)), (GCon.mk false false false false (0 : Int) (0 : Int)), (TList.mk none ([] : (List GItem))), (TList.mk none ([] : (List GFld))), (0 : Int), false, (0 : Int)) : (Int × Str × GMark × GCon × (TList GItem) × (TList GFld) × Int × Bool × Int))) ty3 rfl rfl (fun _ _ h => h) (.there (.there (.there (.there .here)))) rfl (rl_nil ?_)))))
           exact hJ35 _ (t61, t62, none, none) h _ (join_imp 25 rfl rfl mod_nil (.cons (.there .here) (.cons (.there .here) (.cons (.there .here) (.cons (.there .here) (.cons .here (.cons (.there .here) (.cons .here (.cons .here (.cons .here .nil))))))))))
          ·
           exact w_skip (hJ35 _ (t61, t62, none, none) h _ (join_imp 23 rfl rfl mod_nil (.cons .here (.cons .here (.cons .here (.cons .here (.cons .here (.cons (.there .here) (.cons .here (.cons .here (.cons .here .nil)))))))))))
        ·
         refine w_condM h rfl (fun _ h => ?_) (fun _ h => ?_)
         ·
          refine w_region (oM rfl (oV (v_loadI ty133 rfl) (cal_inv h fun y51 hy51 h => oT (t_call (r05_parser_fail_w hy51) hT (.same rfl (.same rfl (.same rfl .nil))) (.cons .here (.cons .here (.cons .here (.cons .here .nil)))) (fun R H' hR => ?_)))))
          obtain ⟨t52, t53, rfl, rfl⟩ := hR
          exact rl_nil (hJ50 _ (t52, t53) h _ (join_imp 3 rfl rfl mod_nil (.cons .here (.cons .here (.cons .here (.cons .here (.cons .here (.cons .here (.cons .here (.cons .here (.cons .here .nil)))))))))))
         ·
          exact w_skip (hJ50 _ (t41, t42) h _ (join_imp 0 rfl rfl mod_nil (.cons .here (.cons .here (.cons .here (.cons .here (.cons .here (.cons .here (.cons .here (.cons .here (.cons .here .nil)))))))))))
       ·
        refine rl_condM (j := 67) h rfl (fun g45 h => ?_) (fun g45 h => ?_)
        ·
         refine oK 67 rfl rfl rfl g45 (v_move rfl) (oK 67 rfl rfl rfl g45 (v_lss rfl rfl) (oK 67 rfl rfl rfl g45 (v_move rfl) (rl_j (jb 73) je .nil h 3 rfl (fun q46 g46 h => ?_) (fun J47 h hJ47 => ?_))))
         ·
          exact oV (v_pick_t rfl g45 rfl) (hJ44 _ () h _ (join_imp 5 rfl rfl (mod_cons (j := 74) rfl (fun _ _ h => h) mod_nil) (.cons .here (.cons .here (.cons .here (.cons .here (.cons .here (.cons .here (.cons .here (.cons .here (.cons .here .nil)))))))))))
         ·
          refine rl_condM (j := 70) h rfl (fun g48 h => ?_) (fun g48 h => ?_)
          ·
           exact oP 70 rfl rfl g48 (oP 70 rfl rfl g48 (oK 67 rfl rfl rfl g45 (v_pick_t rfl g48 rfl) (hJ47 _ () h _ (join_imp 3 rfl rfl (mod_cons (j := 73) rfl (fun _ _ h => h) mod_nil) (.cons .here (.cons .here (.cons .here (.cons .here (.cons .here (.cons .here (.cons .here (.cons .here (.cons .here .nil)))))))))))))
          ·
           exact oK 70 rfl rfl rfl g48 (v_move rfl) (oK 70 rfl rfl rfl g48 (v_gtr rfl rfl) (oK 67 rfl rfl rfl g45 (v_pick_f rfl g48 rfl) (hJ47 _ () h _ (join_imp 3 rfl rfl (mod_cons (j := 73) rfl (fun _ _ h => h) mod_nil) (.cons .here (.cons .here (.cons .here (.cons .here (.cons .here (.cons .here (.cons .here (.cons .here (.cons .here .nil)))))))))))))
        ·
         refine oP 67 rfl rfl g45 (oP 67 rfl rfl g45 (oP 67 rfl rfl g45 (op_passU rfl (dj := 70) rfl (op_passU rfl (dj := 70) rfl ?_))))
         exact oP 67 rfl rfl g45 (oV (v_pick_f rfl g45 rfl) (hJ44 _ () h _ (join_imp 7 rfl rfl (mod_cons (j := 74) rfl (fun _ _ h => h) mod_nil) (.cons .here (.cons .here (.cons .here (.cons .here (.cons .here (.cons .here (.cons .here (.cons .here (.cons .here .nil))))))))))))
      ·
       exact w_skip (hJ35 _ (t32, t33, none, none) h _ (join_imp 0 rfl rfl mod_nil (.cons .here (.cons .here (.cons .here (.cons .here (.cons .here (.cons (.there .here) (.cons .here (.cons .here (.cons .here .nil)))))))))))
   ·
    refine rl_condM (j := 24) h rfl (fun g16 h => ?_) (fun g16 h => ?_)
    ·
     refine oP 24 rfl rfl g16 (oP 24 rfl rfl g16 (oP 24 rfl rfl g16 (oP 24 rfl rfl g16 (oP 24 rfl rfl g16 ?_))))
     exact oP 24 rfl rfl g16 (oP 24 rfl rfl g16 (oV (v_pick_t rfl g16 rfl) (hJ15 _ () h _ (join_imp 8 rfl rfl (mod_cons (j := 32) rfl (fun _ _ h => h) mod_nil) (.cons .here (.cons .here (.cons .here (.cons .here .nil))))))))
    ·
     refine oK 24 rfl rfl rfl g16 (v_move rfl) (oK 24 rfl rfl rfl g16 (v_nilCheck rfl) (oK 24 rfl rfl rfl g16 (v_fa rfl pt129_0_2 fd129_2) (oK 24 rfl rfl rfl g16 (v_fa rfl pt73_0_4 fd73_4) (op_take rfl rfl (dj := 24) rfl g16 (t_loadC (R := vecv v_a_x3 (y4.2.m.nodes.length)) ty71 rfl .here isvV1 ?_)))))
     exact oK 24 rfl rfl rfl g16 (v_vlen sl71 rfl) (oK 24 rfl rfl rfl g16 (v_geq rfl rfl) (oV (v_pick_f rfl g16 rfl) (hJ15 _ () h _ (join_imp 8 rfl rfl (mod_cons (j := 32) rfl (fun _ _ h => h) mod_nil) (.cons .here (.cons .here (.cons .here (.cons .here .nil))))))))

theorem r05_parser_base_w0 {r05_parser_field' : GPar → GNode → Int → Int → Option (GPar × GNode)} {r05_parser_typ' : GPar → Int → Option (Int × GPar)} {r05_parser_base' : GPar → GNode → Int → Option (GPar × GNode)} {r05_parser_fields' : GPar → GNode → Int → Option (GPar × GNode)} (h_r05_parser_field : r05_parser_field_C r05_parser_field') (h_r05_parser_typ : r05_parser_typ_C r05_parser_typ') (h_r05_parser_base : r05_parser_base_C r05_parser_base') (h_r05_parser_fields : r05_parser_fields_C r05_parser_fields') : ∀ {a_x : GPar} {a_n_ : GNode} {a_depth : Int} {b_a_x : Nat} {t_a_x1 : Tok} {t_a_x2 : Tok} {v_a_x3 : Vt} {b_a_n_ : Nat} {t_a_n_4 : Tok} {t_a_n_5 : Tok} {r : GPar × GNode}, r05_parser_base_F r05_parser_field' r05_parser_typ' r05_parser_base' r05_parser_fields' a_x a_n_ a_depth = some r → Ctr Tryz.prog 107 [ptrv b_a_x (Fld.id ((List GTok) × Int × (Str × Int × (TList Str) × (TList Int) × Vh) × Int × Int)), ptrv b_a_n_ (Fld.id (Int × Str × GMark × GCon × (TList GItem) × (TList GFld) × Int × Bool × Int)), isv (a_depth)] [boxE b_a_x ((a_x.l, a_x.at_, (a_x.m.name, a_x.m.tagging, (TList.mk t_a_x1 a_x.m.names), (TList.mk t_a_x2 a_x.m.types), (Vh.mk v_a_x3 a_x.m.nodes.length)), a_x.e, a_x.p) : ((List GTok) × Int × (Str × Int × (TList Str) × (TList Int) × Vh) × Int × Int)), tokE t_a_x1, tokE t_a_x2, vecE v_a_x3 (a_x.m.nodes : List GNode), boxE b_a_n_ ((a_n_.kind, a_n_.name, a_n_.mark, a_n_.con, (TList.mk t_a_n_4 a_n_.items), (TList.mk t_a_n_5 a_n_.fields), a_n_.root, a_n_.more, a_n_.of) : (Int × Str × GMark × GCon × (TList GItem) × (TList GFld) × Int × Bool × Int)), tokE t_a_n_4, tokE t_a_n_5] (fun R H => ∃ u1 : Tok, ∃ u2 : Tok, ∃ u3 : Vt, ∃ u4 : Tok, ∃ u5 : Tok, R = oneOf [] ∧ H = [boxE b_a_x ((r.1.l, r.1.at_, (r.1.m.name, r.1.m.tagging, (TList.mk u1 r.1.m.names), (TList.mk u2 r.1.m.types), (Vh.mk u3 r.1.m.nodes.length)), r.1.e, r.1.p)), tokE u1, tokE u2, vecE u3 (r.1.m.nodes), boxE b_a_n_ ((r.2.kind, r.2.name, r.2.mark, r.2.con, (TList.mk u4 r.2.items), (TList.mk u5 r.2.fields), r.2.root, r.2.more, r.2.of)), tokE u4, tokE u5]) := by
 intro a_x a_n_ a_depth b_a_x t_a_x1 t_a_x2 v_a_x3 b_a_n_ t_a_n_4 t_a_n_5 r h
 unfold r05_parser_base_F at h
 refine spec_intro Tryz.func107 rfl (by decide +kernel) (by rfl) fun w0 S0 hT => ?_
 refine wsr (oM rfl (cal_inv h fun y6 hy6 h => oT (t_call (r05_parser_now_w hy6) hT (.same rfl .nil) (.cons .here (.cons .here (.cons .here (.cons .here .nil)))) (fun R H' hR => ?_))))
 obtain ⟨t7, t8, rfl, rfl⟩ := hR
 refine oT (t_alloc _ ze133 fun b9 => oT (t_storeC (y' := (y6.1 : GTok)) ty133 rfl rfl (fun _ _ h => h) .here rfl (rl_upd (upd_imm 6 .here rfl) (rnf (w_block ?_)))))
 refine wsr (oM rfl (oV (v_nilCheck rfl) (oV (v_fa rfl pt129_0_3 fd129_3) (oT (t_loadC (R := isv (y6.2.e)) ty65 rfl .here (fun _ _ h => h) ?_)))))
 refine oV (v_neq rfl rfl) (oA rfl (rnf (w_condM h rfl (fun _ h => ?_) (fun _ h => ?_))))
 ·
  refine w_skip (fin_block (fin_post .nil (.cons .here (.cons .here (.cons .here (.cons .here (.cons .here (.cons .here (.cons .here .nil))))))) ?_))
  obtain rfl := Option.some.inj h
  exact ⟨t7, t8, v_a_x3, t_a_n_4, t_a_n_5, rfl, rfl⟩
 ·
  refine wsr (oM rfl (cal_inv h fun y10 hy10 h => oT (t_call (r05_parser_is_w hy10) hT (.same rfl (.same rfl .nil)) (.cons .here (.cons .here (.cons .here (.cons .here .nil)))) (fun R H' hR => ?_))))
  obtain ⟨t11, t12, rfl, rfl⟩ := hR
  refine oA rfl (rnf (w_condM h rfl (fun _ h => ?_) (fun _ h => ?_)))
  ·
   refine w_region (oM rfl (oV (v_nilCheck rfl) (oV (v_fa rfl pt167_0_0 fd167_0) (oT (t_storeC (y' := (((1 : Int), a_n_.name, a_n_.mark, a_n_.con, (TList.mk t_a_n_4 a_n_.items), (TList.mk t_a_n_5 a_n_.fields), a_n_.root, a_n_.more, a_n_.of) : (Int × Str × GMark × GCon × (TList GItem) × (TList GFld) × Int × Bool × Int))) ty3 rfl rfl (fun _ _ h => h) (.there (.there (.there (.there .here)))) rfl ?_)))))
   refine rl_nil (fin_block (fin_post .nil (.cons (.there .here) (.cons (.there .here) (.cons (.there .here) (.cons (.there .here) (.cons .here (.cons .here (.cons .here .nil))))))) ?_))
   obtain rfl := Option.some.inj h
   exact ⟨t11, t12, v_a_x3, t_a_n_4, t_a_n_5, rfl, rfl⟩
  ·
   refine wsr (oM rfl (cal_inv h fun y13 hy13 h => oT (t_call (r05_parser_is_w hy13) hT (.same rfl (.same rfl .nil)) (.cons .here (.cons .here (.cons .here (.cons .here .nil)))) (fun R H' hR => ?_))))
   obtain ⟨t14, t15, rfl, rfl⟩ := hR
   refine oA rfl (rnf (w_condM h rfl (fun _ h => ?_) (fun _ h => ?_)))
   ·
    refine w_region (oM rfl (oV (v_nilCheck rfl) (oV (v_fa rfl pt167_0_0 fd167_0) (oT (t_storeC (y' := (((4 : Int), a_n_.name, a_n_.mark, a_n_.con, (TList.mk t_a_n_4 a_n_.items), (TList.mk t_a_n_5 a_n_.fields), a_n_.root, a_n_.more, a_n_.of) : (Int × Str × GMark × GCon × (TList GItem) × (TList GFld) × Int × Bool × Int))) ty3 rfl rfl (fun _ _ h => h) (.there (.there (.there (.there .here)))) rfl ?_)))))
    refine rl_nil (fin_block (fin_post .nil (.cons (.there .here) (.cons (.there .here) (.cons (.there .here) (.cons (.there .here) (.cons .here (.cons .here (.cons .here .nil))))))) ?_))
    obtain rfl := Option.some.inj h
    exact ⟨t14, t15, v_a_x3, t_a_n_4, t_a_n_5, rfl, rfl⟩
   ·
    refine wsr (oM rfl (cal_inv h fun y16 hy16 h => oT (t_call (r05_parser_is_w hy16) hT (.same rfl (.same rfl .nil)) (.cons .here (.cons .here (.cons .here (.cons .here .nil)))) (fun R H' hR => ?_))))
    obtain ⟨t17, t18, rfl, rfl⟩ := hR
    refine oA rfl (rnf (w_condM h rfl (fun _ h => ?_) (fun _ h => ?_)))
    ·
     refine wsr (oM rfl (oV (v_nilCheck rfl) (oV (v_fa rfl pt167_0_0 fd167_0) (oT (t_storeC (y' := (((6 : Int), a_n_.name, a_n_.mark, a_n_.con, (TList.mk t_a_n_4 a_n_.items), (TList.mk t_a_n_5 a_n_.fields), a_n_.root, a_n_.more, a_n_.of) : (Int × Str × GMark × GCon × (TList GItem) × (TList GFld) × Int × Bool × Int))) ty3 rfl rfl (fun _ _ h => h) (.there (.there (.there (.there .here)))) rfl ?_)))))
     refine rnf (w_region (oM rfl (oM rfl (cal_inv h fun y19 hy19 h => ?_))))
     refine oT (t_call (r05_parser_size_w hy19) hT (.same rfl .nil) (.cons (.there .here) (.cons (.there .here) (.cons (.there .here) (.cons (.there .here) .nil)))) (fun R H' hR => ?_))
     obtain ⟨t20, t21, rfl, rfl⟩ := hR
     refine oV (v_nilCheck rfl) (oV (v_fa rfl pt167_0_3 fd167_3) (oT (t_storeC (y' := (((6 : Int), a_n_.name, a_n_.mark, y19.1, (TList.mk t_a_n_4 a_n_.items), (TList.mk t_a_n_5 a_n_.fields), a_n_.root, a_n_.more, a_n_.of) : (Int × Str × GMark × GCon × (TList GItem) × (TList GFld) × Int × Bool × Int))) ty83 rfl rfl (fun _ _ h => h) (.there (.there (.there (.there .here)))) rfl (rl_nil (fin_block ?_)))))
     refine fin_post .nil (.cons (.there .here) (.cons (.there .here) (.cons (.there .here) (.cons (.there .here) (.cons .here (.cons .here (.cons .here .nil))))))) ?_
     obtain rfl := Option.some.inj h
     exact ⟨t20, t21, v_a_x3, t_a_n_4, t_a_n_5, rfl, rfl⟩
    ·
     refine wsr (oM rfl (cal_inv h fun y22 hy22 h => oT (t_call (r05_parser_is_w hy22) hT (.same rfl (.same rfl .nil)) (.cons .here (.cons .here (.cons .here (.cons .here .nil)))) (fun R H' hR => ?_))))
     obtain ⟨t23, t24, rfl, rfl⟩ := hR
     refine oA rfl (rnf (w_condM h rfl (fun _ h => ?_) (fun _ h => ?_)))
     ·
      refine wsr (oM rfl (oV (v_nilCheck rfl) (oV (v_fa rfl pt167_0_0 fd167_0) (oT (t_storeC (y' := (((2 : Int), a_n_.name, a_n_.mark, a_n_.con, (TList.mk t_a_n_4 a_n_.items), (TList.mk t_a_n_5 a_n_.fields), a_n_.root, a_n_.more, a_n_.of) : (Int × Str × GMark × GCon × (TList GItem) × (TList GFld) × Int × Bool × Int))) ty3 rfl rfl (fun _ _ h => h) (.there (.there (.there (.there .here)))) rfl ?_)))))
      refine rnf (wsr (oM rfl (cal_inv h fun y25 hy25 h => oT (t_call (r05_parser_is_w hy25) hT (.same rfl (.same rfl .nil)) (.cons (.there .here) (.cons (.there .here) (.cons (.there .here) (.cons (.there .here) .nil)))) (fun R H' hR => ?_)))))
      obtain ⟨t26, t27, rfl, rfl⟩ := hR
      refine rnf (w_condM h rfl (fun _ h => ?_) (fun _ h => ?_))
      ·
       refine wsr (oM rfl (oM rfl (cal_inv h fun y28 hy28 h => oT (t_call (r05_parser_bounds_w hy28) hT (.same rfl .nil) (.cons .here (.cons .here (.cons .here (.cons .here .nil)))) (fun R H' hR => ?_)))))
       obtain ⟨t29, t30, rfl, rfl⟩ := hR
       refine oV (v_nilCheck rfl) (oV (v_fa rfl pt167_0_3 fd167_3) (oT (t_storeC (y' := (((2 : Int), a_n_.name, a_n_.mark, y28.1, (TList.mk t_a_n_4 a_n_.items), (TList.mk t_a_n_5 a_n_.fields), a_n_.root, a_n_.more, a_n_.of) : (Int × Str × GMark × GCon × (TList GItem) × (TList GFld) × Int × Bool × Int))) ty83 rfl rfl (fun _ _ h => h) (.there (.there (.there (.there .here)))) rfl (rnf (w_region ?_)))))
       refine oM rfl (cal_inv h fun y31 hy31 h => oT (t_call (r05_parser_must_w hy31) hT (.same rfl (.same rfl .nil)) (.cons (.there .here) (.cons (.there .here) (.cons (.there .here) (.cons (.there .here) .nil)))) (fun R H' hR => ?_)))
       obtain ⟨t32, t33, rfl, rfl⟩ := hR
       refine rl_nil (fin_block (fin_post .nil (.cons .here (.cons .here (.cons .here (.cons .here (.cons .here (.cons .here (.cons .here .nil))))))) ?_))
       obtain rfl := Option.some.inj h
       exact ⟨t32, t33, v_a_x3, t_a_n_4, t_a_n_5, rfl, rfl⟩
      ·
       refine w_skip (fin_block (fin_post .nil (.cons .here (.cons .here (.cons .here (.cons .here (.cons .here (.cons .here (.cons .here .nil))))))) ?_))
       obtain rfl := Option.some.inj h
       exact ⟨t26, t27, v_a_x3, t_a_n_4, t_a_n_5, rfl, rfl⟩
     ·
      refine wsr (oM rfl (cal_inv h fun y34 hy34 h => oT (t_call (r05_parser_is_w hy34) hT (.same rfl (.same rfl .nil)) (.cons .here (.cons .here (.cons .here (.cons .here .nil)))) (fun R H' hR => ?_))))
      obtain ⟨t35, t36, rfl, rfl⟩ := hR
      refine oA rfl (rnf (w_condM h rfl (fun _ h => ?_) (fun _ h => ?_)))
      ·
       refine wsr (oM rfl (cal_inv h fun y37 hy37 h => oT (t_call (r05_parser_must_w hy37) hT (.same rfl (.same rfl .nil)) (.cons .here (.cons .here (.cons .here (.cons .here .nil)))) (fun R H' hR => ?_))))
       obtain ⟨t38, t39, rfl, rfl⟩ := hR
       refine rnf (wsr (oM rfl (oV (v_nilCheck rfl) (oV (v_fa rfl pt167_0_0 fd167_0) ?_))))
       refine oT (t_storeC (y' := (((5 : Int), a_n_.name, a_n_.mark, a_n_.con, (TList.mk t_a_n_4 a_n_.items), (TList.mk t_a_n_5 a_n_.fields), a_n_.root, a_n_.more, a_n_.of) : (Int × Str × GMark × GCon × (TList GItem) × (TList GFld) × Int × Bool × Int))) ty3 rfl rfl (fun _ _ h => h) (.there (.there (.there (.there .here)))) rfl (rnf (w_region (oM rfl (oM rfl ?_)))))
       refine cal_inv h fun y40 hy40 h => oT (t_call (r05_parser_size_w hy40) hT (.same rfl .nil) (.cons (.there .here) (.cons (.there .here) (.cons (.there .here) (.cons (.there .here) .nil)))) (fun R H' hR => ?_))
       obtain ⟨t41, t42, rfl, rfl⟩ := hR
       refine oV (v_nilCheck rfl) (oV (v_fa rfl pt167_0_3 fd167_3) (oT (t_storeC (y' := (((5 : Int), a_n_.name, a_n_.mark, y40.1, (TList.mk t_a_n_4 a_n_.items), (TList.mk t_a_n_5 a_n_.fields), a_n_.root, a_n_.more, a_n_.of) : (Int × Str × GMark × GCon × (TList GItem) × (TList GFld) × Int × Bool × Int))) ty83 rfl rfl (fun _ _ h => h) (.there (.there (.there (.there .here)))) rfl (rl_nil (fin_block ?_)))))
       refine fin_post .nil (.cons (.there .here) (.cons (.there .here) (.cons (.there .here) (.cons (.there .here) (.cons .here (.cons .here (.cons .here .nil))))))) ?_
       obtain rfl := Option.some.inj h
       exact ⟨t41, t42, v_a_x3, t_a_n_4, t_a_n_5, rfl, rfl⟩
      ·
       refine wsr (oM rfl (cal_inv h fun y43 hy43 h => oT (t_call (r05_parser_is_w hy43) hT (.same rfl (.same rfl .nil)) (.cons .here (.cons .here (.cons .here (.cons .here .nil)))) (fun R H' hR => ?_))))
       obtain ⟨t44, t45, rfl, rfl⟩ := hR
       refine oA rfl (rnf (w_condM h rfl (fun _ h => ?_) (fun _ h => ?_)))
       ·
        refine wsr (oM rfl (oV (v_nilCheck rfl) (oV (v_fa rfl pt167_0_0 fd167_0) (oT (t_storeC (y' := (((3 : Int), a_n_.name, a_n_.mark, a_n_.con, (TList.mk t_a_n_4 a_n_.items), (TList.mk t_a_n_5 a_n_.fields), a_n_.root, a_n_.more, a_n_.of) : (Int × Str × GMark × GCon × (TList GItem) × (TList GFld) × Int × Bool × Int))) ty3 rfl rfl (fun _ _ h => h) (.there (.there (.there (.there .here)))) rfl ?_)))))
        refine rnf (wsr (oM rfl (cal_inv h fun y46 hy46 h => oT (t_call (r05_parser_must_w hy46) hT (.same rfl (.same rfl .nil)) (.cons (.there .here) (.cons (.there .here) (.cons (.there .here) (.cons (.there .here) .nil)))) (fun R H' hR => ?_)))))
        obtain ⟨t47, t48, rfl, rfl⟩ := hR
        refine rnf (wsr (oM rfl (oM rfl (cal_inv h fun y49 hy49 h => ?_))))
        refine oT (t_call (r05_parser_items_w hy49) hT (.same rfl (.same rfl .nil)) (.cons .here (.cons .here (.cons .here (.cons .here (.cons .here (.cons .here (.cons .here .nil))))))) (fun R H' hR => ?_))
        obtain ⟨t50, t51, t52, t53, rfl, rfl⟩ := hR
        refine rnf (w_region (oM rfl (cal_inv h fun y54 hy54 h => oT (t_call (r05_parser_must_w hy54) hT (.same rfl (.same rfl .nil)) (.cons .here (.cons .here (.cons .here (.cons .here .nil)))) (fun R H' hR => ?_)))))
        obtain ⟨t55, t56, rfl, rfl⟩ := hR
        refine rl_nil (fin_block (fin_post .nil (.cons .here (.cons .here (.cons .here (.cons .here (.cons .here (.cons .here (.cons .here .nil))))))) ?_))
        obtain rfl := Option.some.inj h
        exact ⟨t55, t56, v_a_x3, t52, t53, rfl, rfl⟩
       ·
        refine wsr (oM rfl (cal_inv h fun y57 hy57 h => oT (t_call (r05_parser_is_w hy57) hT (.same rfl (.same rfl .nil)) (.cons .here (.cons .here (.cons .here (.cons .here .nil)))) (fun R H' hR => ?_))))
        obtain ⟨t58, t59, rfl, rfl⟩ := hR
        refine oA rfl (rnf (w_condM h rfl (fun _ h => ?_) (fun _ h => ?_)))
        ·
         refine wsr (oM rfl (oV (v_nilCheck rfl) (oV (v_fa rfl pt167_0_0 fd167_0) (oT (t_storeC (y' := (((8 : Int), a_n_.name, a_n_.mark, a_n_.con, (TList.mk t_a_n_4 a_n_.items), (TList.mk t_a_n_5 a_n_.fields), a_n_.root, a_n_.more, a_n_.of) : (Int × Str × GMark × GCon × (TList GItem) × (TList GFld) × Int × Bool × Int))) ty3 rfl rfl (fun _ _ h => h) (.there (.there (.there (.there .here)))) rfl ?_)))))
         refine rnf (wsr (oM rfl (cal_inv h fun y60 hy60 h => oT (t_call (r05_parser_must_w hy60) hT (.same rfl (.same rfl .nil)) (.cons (.there .here) (.cons (.there .here) (.cons (.there .here) (.cons (.there .here) .nil)))) (fun R H' hR => ?_)))))
         obtain ⟨t61, t62, rfl, rfl⟩ := hR
         refine rnf (w_region (oM rfl (oM rfl (oM rfl ?_))))
         refine cal_inv h fun y63 hy63 h => oT (t_call (h_r05_parser_fields hy63) hT (.same rfl (.same rfl (.same rfl .nil))) (.cons .here (.cons .here (.cons .here (.cons .here (.cons .here (.cons .here (.cons .here .nil))))))) (fun R H' hR => ?_))
         obtain ⟨t64, t65, v66, t67, t68, rfl, rfl⟩ := hR
         refine rl_nil (fin_block (fin_post .nil (.cons .here (.cons .here (.cons .here (.cons .here (.cons .here (.cons .here (.cons .here .nil))))))) ?_))
         obtain rfl := Option.some.inj h
         exact ⟨t64, t65, v66, t67, t68, rfl, rfl⟩
        ·
         refine wsr (oM rfl (cal_inv h fun y69 hy69 h => oT (t_call (r05_parser_is_w hy69) hT (.same rfl (.same rfl .nil)) (.cons .here (.cons .here (.cons .here (.cons .here .nil)))) (fun R H' hR => ?_))))
         obtain ⟨t70, t71, rfl, rfl⟩ := hR
         refine oA rfl (rnf (w_condM h rfl (fun _ h => ?_) (fun _ h => ?_)))
         ·
          refine wsr (oM rfl (oV (v_nilCheck rfl) (oV (v_fa rfl pt167_0_0 fd167_0) (oT (t_storeC (y' := (((9 : Int), a_n_.name, a_n_.mark, a_n_.con, (TList.mk t_a_n_4 a_n_.items), (TList.mk t_a_n_5 a_n_.fields), a_n_.root, a_n_.more, a_n_.of) : (Int × Str × GMark × GCon × (TList GItem) × (TList GFld) × Int × Bool × Int))) ty3 rfl rfl (fun _ _ h => h) (.there (.there (.there (.there .here)))) rfl ?_)))))
          refine rnf (wsr (oM rfl (cal_inv h fun y72 hy72 h => oT (t_call (r05_parser_must_w hy72) hT (.same rfl (.same rfl .nil)) (.cons (.there .here) (.cons (.there .here) (.cons (.there .here) (.cons (.there .here) .nil)))) (fun R H' hR => ?_)))))
          obtain ⟨t73, t74, rfl, rfl⟩ := hR
          refine rnf (w_region (oM rfl (oM rfl (oM rfl ?_))))
          refine cal_inv h fun y75 hy75 h => oT (t_call (h_r05_parser_fields hy75) hT (.same rfl (.same rfl (.same rfl .nil))) (.cons .here (.cons .here (.cons .here (.cons .here (.cons .here (.cons .here (.cons .here .nil))))))) (fun R H' hR => ?_))
          obtain ⟨t76, t77, v78, t79, t80, rfl, rfl⟩ := hR
          refine rl_nil (fin_block (fin_post .nil (.cons .here (.cons .here (.cons .here (.cons .here (.cons .here (.cons .here (.cons .here .nil))))))) ?_))
          obtain rfl := Option.some.inj h
          exact ⟨t76, t77, v78, t79, t80, rfl, rfl⟩
         ·
          refine wsr (oM rfl (cal_inv h fun y81 hy81 h => oT (t_call (r05_parser_is_w hy81) hT (.same rfl (.same rfl .nil)) (.cons .here (.cons .here (.cons .here (.cons .here .nil)))) (fun R H' hR => ?_))))
          obtain ⟨t82, t83, rfl, rfl⟩ := hR
          refine oA rfl (rnf (w_condM h rfl (fun _ h => ?_) (fun _ h => ?_)))
          ·
           refine w_seq (wsr (oM rfl (cal_inv h fun y84 hy84 h => oT (t_call (r05_parser_is_w hy84) hT (.same rfl (.same rfl .nil)) (.cons .here (.cons .here (.cons .here (.cons .here .nil)))) (fun R H' hR => ?_)))))
           obtain ⟨t85, t86, rfl, rfl⟩ := hR
           refine rnf (w_condM h rfl (fun _ h => ?_) (fun _ h => ?_))
           ·
            refine wsr (oM rfl (oV (v_nilCheck rfl) (oV (v_fa rfl pt167_0_0 fd167_0) (oT (t_storeC (y' := (((7 : Int), a_n_.name, a_n_.mark, a_n_.con, (TList.mk t_a_n_4 a_n_.items), (TList.mk t_a_n_5 a_n_.fields), a_n_.root, a_n_.more, a_n_.of) : (Int × Str × GMark × GCon × (TList GItem) × (TList GFld) × Int × Bool × Int))) ty3 rfl rfl (fun _ _ h => h) (.there (.there (.there (.there .here)))) rfl ?_)))))
            refine rnf (wsr (oM rfl (oM rfl (oM rfl ?_))))
            refine cal_inv h fun y87 hy87 h => oT (t_call (h_r05_parser_fields hy87) hT (.same rfl (.same rfl (.same rfl .nil))) (.cons (.there .here) (.cons (.there .here) (.cons (.there .here) (.cons (.there .here) (.cons .here (.cons .here (.cons .here .nil))))))) (fun R H' hR => ?_))
            obtain ⟨t88, t89, v90, t91, t92, rfl, rfl⟩ := hR
            refine rnf (w_ret (ret_nxt (ret_block (ret_post .nil (.cons .here (.cons .here (.cons .here (.cons .here (.cons .here (.cons .here (.cons .here .nil))))))) ?_))))
            obtain rfl := Option.some.inj h
            exact ⟨t88, t89, v90, t91, t92, rfl, rfl⟩
           ·
            refine wkf (wsr (oM rfl (oV (v_nilCheck rfl) (oV (v_fa rfl pt167_0_0 fd167_0) ?_))))
            refine oT (t_storeC (y' := (((10 : Int), a_n_.name, a_n_.mark, a_n_.con, (TList.mk t_a_n_4 a_n_.items), (TList.mk t_a_n_5 a_n_.fields), a_n_.root, a_n_.more, a_n_.of) : (Int × Str × GMark × GCon × (TList GItem) × (TList GFld) × Int × Bool × Int))) ty3 rfl rfl (fun _ _ h => h) (.there (.there (.there (.there .here)))) rfl (rnf (wsr (oM rfl (oM rfl ?_)))))
            refine cal_inv h fun y93 hy93 h => oT (t_call (r05_parser_size_w hy93) hT (.same rfl .nil) (.cons (.there .here) (.cons (.there .here) (.cons (.there .here) (.cons (.there .here) .nil)))) (fun R H' hR => ?_))
            obtain ⟨t94, t95, rfl, rfl⟩ := hR
            refine oV (v_nilCheck rfl) (oV (v_fa rfl pt167_0_3 fd167_3) (oT (t_storeC (y' := (((10 : Int), a_n_.name, a_n_.mark, y93.1, (TList.mk t_a_n_4 a_n_.items), (TList.mk t_a_n_5 a_n_.fields), a_n_.root, a_n_.more, a_n_.of) : (Int × Str × GMark × GCon × (TList GItem) × (TList GFld) × Int × Bool × Int))) ty83 rfl rfl (fun _ _ h => h) (.there (.there (.there (.there .here)))) rfl (rnf (wsr ?_)))))
            refine oM rfl (cal_inv h fun y96 hy96 h => oT (t_call (r05_parser_must_w hy96) hT (.same rfl (.same rfl .nil)) (.cons (.there .here) (.cons (.there .here) (.cons (.there .here) (.cons (.there .here) .nil)))) (fun R H' hR => ?_)))
            obtain ⟨t97, t98, rfl, rfl⟩ := hR
            refine rnf (w_region (oM rfl (oM rfl (oM rfl ?_))))
            refine ck_inv h fun q99 h => oV (v_add rfl rfl q99) (cal_inv h fun y100 hy100 h => oT (t_call (h_r05_parser_typ hy100) hT (.same rfl (.same rfl .nil)) (.cons .here (.cons .here (.cons .here (.cons .here .nil)))) (fun R H' hR => ?_)))
            obtain ⟨t101, t102, v103, rfl, rfl⟩ := hR
            refine oV (v_nilCheck rfl) (oV (v_fa rfl pt167_0_8 fd167_8) (oT (t_storeC (y' := (((10 : Int), a_n_.name, a_n_.mark, y93.1, (TList.mk t_a_n_4 a_n_.items), (TList.mk t_a_n_5 a_n_.fields), a_n_.root, a_n_.more, y100.1) : (Int × Str × GMark × GCon × (TList GItem) × (TList GFld) × Int × Bool × Int))) ty3 rfl rfl (fun _ _ h => h) (.there (.there (.there (.there .here)))) rfl (rl_nil (fin_block ?_)))))
            refine fin_post .nil (.cons (.there .here) (.cons (.there .here) (.cons (.there .here) (.cons (.there .here) (.cons .here (.cons .here (.cons .here .nil))))))) ?_
            obtain rfl := Option.some.inj h
            exact ⟨t101, t102, v103, t_a_n_4, t_a_n_5, rfl, rfl⟩
          ·
           refine wsr (oV (v_fi rfl GTok.f0 fd133_0 rfl (z := y6.1.kind)) (oV (v_loadI ty3 rfl) (oV (v_eql rfl rfl) (oA rfl ?_))))
           refine rnf (w_condM h rfl (fun _ h => ?_) (fun _ h => ?_))
           ·
            refine w_seq (w_regionD (.v 0 (.v 1 (.v 2 (.v 3 (.v 4 (.v 5 (.t 6 (.v 7 (.v 8 (.t 9 .nil)))))))))) moOrd (by kernel_rfl) ?_)
            refine rvm rfl rfl (rvm rfl rfl (rd_v rfl (v_fi rfl GTok.f1 fd133_1 rfl (z := y6.1.text)) (rd_v rfl (v_loadI ty9 rfl) (rd_v rfl (v_nilCheck rfl) ?_))))
            refine rd_v rfl (v_fa rfl pt167_0_0 fd167_0) (rd_t rfl rfl (t_storeC (y' := (((11 : Int), a_n_.name, a_n_.mark, a_n_.con, (TList.mk t_a_n_4 a_n_.items), (TList.mk t_a_n_5 a_n_.fields), a_n_.root, a_n_.more, a_n_.of) : (Int × Str × GMark × GCon × (TList GItem) × (TList GFld) × Int × Bool × Int))) ty3 rfl rfl (fun _ _ h => h) (.there (.there (.there (.there .here)))) rfl (rd_v rfl (v_nilCheck rfl) (rd_v rfl (v_fa rfl pt167_0_1 fd167_1) ?_))))
            refine rd_t rfl rfl (t_storeC (y' := (((11 : Int), y6.1.text, a_n_.mark, a_n_.con, (TList.mk t_a_n_4 a_n_.items), (TList.mk t_a_n_5 a_n_.fields), a_n_.root, a_n_.more, a_n_.of) : (Int × Str × GMark × GCon × (TList GItem) × (TList GFld) × Int × Bool × Int))) ty9 rfl rfl (fun _ _ h => h) .here rfl (rd_nil (fin_nxt (w_region (oM rfl ?_)))))
            refine cal_inv h fun y104 hy104 h => oT (t_call (r05_parser_next_w hy104) hT (.same rfl .nil) (.cons (.there .here) (.cons (.there .here) (.cons (.there .here) (.cons (.there .here) .nil)))) (fun R H' hR => ?_))
            obtain ⟨t105, t106, rfl, rfl⟩ := hR
            refine rl_nil (fin_block (fin_post .nil (.cons .here (.cons .here (.cons .here (.cons .here (.cons .here (.cons .here (.cons .here .nil))))))) ?_))
            obtain rfl := Option.some.inj h
            exact ⟨t105, t106, v_a_x3, t_a_n_4, t_a_n_5, rfl, rfl⟩
           ·
            refine w_region (oM rfl (oV (v_loadI ty133 rfl) (cal_inv h fun y107 hy107 h => oT (t_call (r05_parser_fail_w hy107) hT (.same rfl (.same rfl (.same rfl .nil))) (.cons .here (.cons .here (.cons .here (.cons .here .nil)))) (fun R H' hR => ?_)))))
            obtain ⟨t108, t109, rfl, rfl⟩ := hR
            refine rl_nil (fin_block (fin_post .nil (.cons .here (.cons .here (.cons .here (.cons .here (.cons .here (.cons .here (.cons .here .nil))))))) ?_))
            obtain rfl := Option.some.inj h
            exact ⟨t108, t109, v_a_x3, t_a_n_4, t_a_n_5, rfl, rfl⟩

theorem r05_parser_fields_w0 {r05_parser_field' : GPar → GNode → Int → Int → Option (GPar × GNode)} {r05_parser_typ' : GPar → Int → Option (Int × GPar)} {r05_parser_base' : GPar → GNode → Int → Option (GPar × GNode)} {r05_parser_fields' : GPar → GNode → Int → Option (GPar × GNode)} (h_r05_parser_field : r05_parser_field_C r05_parser_field') (h_r05_parser_typ : r05_parser_typ_C r05_parser_typ') (h_r05_parser_base : r05_parser_base_C r05_parser_base') (h_r05_parser_fields : r05_parser_fields_C r05_parser_fields') : ∀ {a_x : GPar} {a_n_ : GNode} {a_depth : Int} {b_a_x : Nat} {t_a_x1 : Tok} {t_a_x2 : Tok} {v_a_x3 : Vt} {b_a_n_ : Nat} {t_a_n_4 : Tok} {t_a_n_5 : Tok} {r : GPar × GNode}, r05_parser_fields_F r05_parser_field' r05_parser_typ' r05_parser_base' r05_parser_fields' a_x a_n_ a_depth = some r → Ctr Tryz.prog 149 [ptrv b_a_x (Fld.id ((List GTok) × Int × (Str × Int × (TList Str) × (TList Int) × Vh) × Int × Int)), ptrv b_a_n_ (Fld.id (Int × Str × GMark × GCon × (TList GItem) × (TList GFld) × Int × Bool × Int)), isv (a_depth)] [boxE b_a_x ((a_x.l, a_x.at_, (a_x.m.name, a_x.m.tagging, (TList.mk t_a_x1 a_x.m.names), (TList.mk t_a_x2 a_x.m.types), (Vh.mk v_a_x3 a_x.m.nodes.length)), a_x.e, a_x.p) : ((List GTok) × Int × (Str × Int × (TList Str) × (TList Int) × Vh) × Int × Int)), tokE t_a_x1, tokE t_a_x2, vecE v_a_x3 (a_x.m.nodes : List GNode), boxE b_a_n_ ((a_n_.kind, a_n_.name, a_n_.mark, a_n_.con, (TList.mk t_a_n_4 a_n_.items), (TList.mk t_a_n_5 a_n_.fields), a_n_.root, a_n_.more, a_n_.of) : (Int × Str × GMark × GCon × (TList GItem) × (TList GFld) × Int × Bool × Int)), tokE t_a_n_4, tokE t_a_n_5] (fun R H => ∃ u1 : Tok, ∃ u2 : Tok, ∃ u3 : Vt, ∃ u4 : Tok, ∃ u5 : Tok, R = oneOf [] ∧ H = [boxE b_a_x ((r.1.l, r.1.at_, (r.1.m.name, r.1.m.tagging, (TList.mk u1 r.1.m.names), (TList.mk u2 r.1.m.types), (Vh.mk u3 r.1.m.nodes.length)), r.1.e, r.1.p)), tokE u1, tokE u2, vecE u3 (r.1.m.nodes), boxE b_a_n_ ((r.2.kind, r.2.name, r.2.mark, r.2.con, (TList.mk u4 r.2.items), (TList.mk u5 r.2.fields), r.2.root, r.2.more, r.2.of)), tokE u4, tokE u5]) := by
 intro a_x a_n_ a_depth b_a_x t_a_x1 t_a_x2 v_a_x3 b_a_n_ t_a_n_4 t_a_n_5 r h
 unfold r05_parser_fields_F at h
 refine spec_intro Tryz.func149 rfl (by decide +kernel) (by rfl) fun w0 S0 hT => ?_
 refine w_seq (wsr (oM rfl (cal_inv h fun y6 hy6 h => oT (t_call (r05_parser_is_w hy6) hT (.same rfl (.same rfl .nil)) (.cons .here (.cons .here (.cons .here (.cons .here .nil)))) (fun R H' hR => ?_)))))
 obtain ⟨t7, t8, rfl, rfl⟩ := hR
 refine rnf (w_condM h rfl (fun _ h => ?_) (fun _ h => ?_))
 ·
  refine w_ret (ret_nxt (ret_post .nil (.cons .here (.cons .here (.cons .here (.cons .here (.cons .here (.cons .here (.cons .here .nil))))))) ?_))
  obtain rfl := Option.some.inj h
  exact ⟨t7, t8, v_a_x3, t_a_n_4, t_a_n_5, rfl, rfl⟩
 ·
  refine wkf (wsr (oA rfl (rnf (w_seq ?_))))
  refine w_J (ι := GPar × GNode) (γ := Tok × Tok × Vt × Tok × Tok) (fun q9 g9 => [(6, anyv)]) (fun q9 g9 => [boxE b_a_x ((q9.1.l, q9.1.at_, (q9.1.m.name, q9.1.m.tagging, (TList.mk g9.1 q9.1.m.names), (TList.mk g9.2.1 q9.1.m.types), (Vh.mk g9.2.2.1 q9.1.m.nodes.length)), q9.1.e, q9.1.p) : ((List GTok) × Int × (Str × Int × (TList Str) × (TList Int) × Vh) × Int × Int)), tokE g9.1, tokE g9.2.1, vecE g9.2.2.1 (q9.1.m.nodes : List GNode), boxE b_a_n_ ((q9.2.kind, q9.2.name, q9.2.mark, q9.2.con, (TList.mk g9.2.2.2.1 q9.2.items), (TList.mk g9.2.2.2.2 q9.2.fields), q9.2.root, q9.2.more, q9.2.of) : (Int × Str × GMark × GCon × (TList GItem) × (TList GFld) × Int × Bool × Int)), tokE g9.2.2.2.1, tokE g9.2.2.2.2]) (.cons .here (.cons (.there (.there (.there .here))) (.cons .here (.cons .here (.cons .here (.cons .here (.cons .here .nil))))))) h (fun q9 g9 h => ?_) (fun J10 h hJ10 => ?_)
  ·
   refine wsr (oM rfl (cal_inv h fun y114 hy114 h => oT (t_call (r05_parser_must_w hy114) hT (.same rfl (.same rfl .nil)) (.cons .here (.cons .here (.cons .here (.cons .here .nil)))) (fun R H' hR => ?_))))
   obtain ⟨t115, t116, rfl, rfl⟩ := hR
   refine rnf (wsr (oM rfl (oV (v_nilCheck rfl) (oV (v_fa rfl pt167_0_7 fd167_7) ?_))))
   refine oT (t_loadC (R := isv (q9.2.more)) ty4 rfl (.there (.there (.there (.there .here)))) (fun _ _ h => h) (oV (v_not rfl) (rnf (w_condM h rfl (fun _ h => ?_) (fun _ h => ?_)))))
   ·
    refine w_region (oM rfl (oM rfl (oV (v_nilCheck rfl) (oV (v_fa rfl pt167_0_5 fd167_5) ?_))))
    refine oT (t_loadC (R := appv g9.2.2.2.2 (q9.2.fields)) ty85 rfl (.there (.there (.there (.there .here)))) isvT1 (oV (v_ln (l := q9.2.fields) rfl appv_isv sl85) (oV (v_nilCheck rfl) (oV (v_fa rfl pt167_0_6 fd167_6) (oT (t_storeC (y' := ((q9.2.kind, q9.2.name, q9.2.mark, q9.2.con, (TList.mk g9.2.2.2.1 q9.2.items), (TList.mk g9.2.2.2.2 q9.2.fields), (q9.2.fields.length : Int), q9.2.more, q9.2.of) : (Int × Str × GMark × GCon × (TList GItem) × (TList GFld) × Int × Bool × Int))) ty3 rfl rfl (fun _ _ h => h) (.there (.there (.there (.there .here)))) rfl ?_))))))
    refine rl_nil (fin_post .nil (.cons (.there .here) (.cons (.there .here) (.cons (.there .here) (.cons (.there .here) (.cons .here (.cons .here (.cons .here .nil))))))) ?_)
    obtain rfl := Option.some.inj h
    exact ⟨t115, t116, g9.2.2.1, g9.2.2.2.1, g9.2.2.2.2, rfl, rfl⟩
   ·
    refine w_skip (fin_post .nil (.cons .here (.cons .here (.cons .here (.cons .here (.cons .here (.cons .here (.cons .here .nil))))))) ?_)
    obtain rfl := Option.some.inj h
    exact ⟨t115, t116, g9.2.2.1, g9.2.2.2.1, g9.2.2.2.2, rfl, rfl⟩
  ·
   refine w_block ?_
   refine w_lp (ι := Int × GPar × GNode) (γ := Tok × Tok × Vt × Tok × Tok) (fun q11 g11 => [(6, isv (q11.1))]) (fun q11 g11 => [boxE b_a_x ((q11.2.1.l, q11.2.1.at_, (q11.2.1.m.name, q11.2.1.m.tagging, (TList.mk g11.1 q11.2.1.m.names), (TList.mk g11.2.1 q11.2.1.m.types), (Vh.mk g11.2.2.1 q11.2.1.m.nodes.length)), q11.2.1.e, q11.2.1.p) : ((List GTok) × Int × (Str × Int × (TList Str) × (TList Int) × Vh) × Int × Int)), tokE g11.1, tokE g11.2.1, vecE g11.2.2.1 (q11.2.1.m.nodes : List GNode), boxE b_a_n_ ((q11.2.2.kind, q11.2.2.name, q11.2.2.mark, q11.2.2.con, (TList.mk g11.2.2.2.1 q11.2.2.items), (TList.mk g11.2.2.2.2 q11.2.2.fields), q11.2.2.root, q11.2.2.more, q11.2.2.of) : (Int × Str × GMark × GCon × (TList GItem) × (TList GFld) × Int × Bool × Int)), tokE g11.2.2.2.1, tokE g11.2.2.2.2]) h (t7, t8, v_a_x3, t_a_n_4, t_a_n_5) (mod_cons (j := 6) rfl (fun _ _ h => h) mod_nil) (.cons .here (.cons .here (.cons .here (.cons .here (.cons .here (.cons .here (.cons .here .nil))))))) (fun L12 q11 g11 Q113 h hL12 eL12 rL12 => ?_)
   refine w_seq (wsr (oM rfl (oV (v_nilCheck rfl) (oV (v_fa rfl pt129_0_3 fd129_3) ?_))))
   refine oT (t_loadC (R := isv (q11.2.1.e)) ty65 rfl .here (fun _ _ h => h) (oV (v_eql rfl rfl) (rnf (w_condM h rfl (fun _ h => ?_) (fun _ h => ?_)))))
   ·
    refine wkf (w_block (w_seq ?_))
    refine w_J (ι := Int × GPar × GNode) (γ := Tok × Tok × Vt × Tok × Tok) (fun q63 g63 => [(6, isv (q63.1))]) (fun q63 g63 => [boxE b_a_x ((q63.2.1.l, q63.2.1.at_, (q63.2.1.m.name, q63.2.1.m.tagging, (TList.mk g63.1 q63.2.1.m.names), (TList.mk g63.2.1 q63.2.1.m.types), (Vh.mk g63.2.2.1 q63.2.1.m.nodes.length)), q63.2.1.e, q63.2.1.p) : ((List GTok) × Int × (Str × Int × (TList Str) × (TList Int) × Vh) × Int × Int)), tokE g63.1, tokE g63.2.1, vecE g63.2.2.1 (q63.2.1.m.nodes : List GNode), boxE b_a_n_ ((q63.2.2.kind, q63.2.2.name, q63.2.2.mark, q63.2.2.con, (TList.mk g63.2.2.2.1 q63.2.2.items), (TList.mk g63.2.2.2.2 q63.2.2.fields), q63.2.2.root, q63.2.2.more, q63.2.2.of) : (Int × Str × GMark × GCon × (TList GItem) × (TList GFld) × Int × Bool × Int)), tokE g63.2.2.2.1, tokE g63.2.2.2.2]) (.cons .here (.cons (.there (.there (.there .here))) (.cons .here (.cons .here (.cons .here (.cons .here (.cons .here .nil))))))) h (fun q63 g63 h => ?_) (fun J64 h hJ64 => ?_)
    ·
     refine wsr (oM rfl (cal_inv h fun y110 hy110 h => oT (t_call (r05_parser_is_w hy110) hT (.same rfl (.same rfl .nil)) (.cons .here (.cons .here (.cons .here (.cons .here .nil)))) (fun R H' hR => ?_))))
     obtain ⟨t111, t112, rfl, rfl⟩ := hR
     refine oV (v_not rfl) (rnf (w_condM h rfl (fun _ h => ?_) (fun _ h => ?_)))
     ·
      exact w_exit (exi_pass rfl (eL12 _ _ (exi_block (hJ10 _ (t111, t112, g63.2.2.1, g63.2.2.2.1, g63.2.2.2.2) h _ (join_imp 10 rfl rfl (mod_cons (j := 6) rfl (fun _ _ _ => trivial) mod_nil) (.cons .here (.cons .here (.cons .here (.cons .here (.cons .here (.cons .here (.cons .here .nil))))))))))))
     ·
      exact w_skip (fin_block (hL12 _ (t111, t112, g63.2.2.1, g63.2.2.2.1, g63.2.2.2.2) h _ (join_imp 10 rfl rfl (mod_cons (j := 6) rfl (fun _ _ h => h) mod_nil) (.cons .here (.cons .here (.cons .here (.cons .here (.cons .here (.cons .here (.cons .here .nil))))))))))
    ·
     refine w_block (wsr (oM rfl (oV (v_nilCheck rfl) (oV (v_fa rfl pt167_0_7 fd167_7) ?_))))
     refine oT (t_loadC (R := isv (q11.2.2.more)) ty4 rfl (.there (.there (.there (.there .here)))) (fun _ _ h => h) (oV (v_not rfl) (oM rfl (rl_j (ι := Bool × GPar) (γ := Tok × Tok) (fun q65 g65 => [(27, isv (q65.1))]) (fun q65 g65 => [boxE b_a_x ((q65.2.l, q65.2.at_, (q65.2.m.name, q65.2.m.tagging, (TList.mk g65.1 q65.2.m.names), (TList.mk g65.2 q65.2.m.types), (Vh.mk g11.2.2.1 q65.2.m.nodes.length)), q65.2.e, q65.2.p) : ((List GTok) × Int × (Str × Int × (TList Str) × (TList Int) × Vh) × Int × Int)), tokE g65.1, tokE g65.2, vecE g11.2.2.1 (q65.2.m.nodes : List GNode)]) (.cons .here (.cons .here (.cons .here (.cons .here .nil)))) h 3 rfl (fun q65 g65 h => ?_) (fun J66 h hJ66 => ?_)))))
     ·
      refine oA rfl (rnf (w_condM h rfl (fun _ h => ?_) (fun _ h => ?_)))
      ·
       refine w_region (oM rfl (oM rfl (oM rfl (oV (v_nilCheck rfl) ?_))))
       refine oV (v_fa rfl pt167_0_5 fd167_5) (oT (t_loadC (R := appv g11.2.2.2.2 (q11.2.2.fields)) ty85 rfl (.there (.there (.there (.there .here)))) isvT1 (oV (v_ln (l := q11.2.2.fields) rfl appv_isv sl85) (oV (v_nilCheck rfl) (oV (v_fa rfl pt167_0_7 fd167_7) ?_)))))
       refine oT (t_storeC (y' := ((q11.2.2.kind, q11.2.2.name, q11.2.2.mark, q11.2.2.con, (TList.mk g11.2.2.2.1 q11.2.2.items), (TList.mk g11.2.2.2.2 q11.2.2.fields), q11.2.2.root, true, q11.2.2.of) : (Int × Str × GMark × GCon × (TList GItem) × (TList GFld) × Int × Bool × Int))) ty4 rfl rfl (fun _ _ h => h) (.there (.there (.there (.there .here)))) rfl (oV (v_nilCheck rfl) (oV (v_fa rfl pt167_0_6 fd167_6) ?_)))
       exact oT (t_storeC (y' := ((q11.2.2.kind, q11.2.2.name, q11.2.2.mark, q11.2.2.con, (TList.mk g11.2.2.2.1 q11.2.2.items), (TList.mk g11.2.2.2.2 q11.2.2.fields), (q11.2.2.fields.length : Int), true, q11.2.2.of) : (Int × Str × GMark × GCon × (TList GItem) × (TList GFld) × Int × Bool × Int))) ty3 rfl rfl (fun _ _ h => h) .here rfl (rl_nil (fin_block (hJ64 _ (g65.1, g65.2, g11.2.2.1, g11.2.2.2.1, g11.2.2.2.2) h _ (join_imp 19 rfl rfl (mod_cons (j := 6) rfl (fun _ _ h => h) mod_nil) (.cons (.there .here) (.cons (.there .here) (.cons (.there .here) (.cons (.there .here) (.cons .here (.cons .here (.cons .here .nil))))))))))))
      ·
       refine wsr (oM rfl (oV (v_nilCheck rfl) (oV (v_fa rfl pt167_0_7 fd167_7) (oT (t_loadC (R := isv (q11.2.2.more)) ty4 rfl (.there (.there (.there (.there .here)))) (fun _ _ h => h) ?_)))))
       refine oM rfl (rl_j (ι := Bool × GPar) (γ := Tok × Tok) (fun q71 g71 => [(47, isv (q71.1))]) (fun q71 g71 => [boxE b_a_x ((q71.2.l, q71.2.at_, (q71.2.m.name, q71.2.m.tagging, (TList.mk g71.1 q71.2.m.names), (TList.mk g71.2 q71.2.m.types), (Vh.mk g11.2.2.1 q71.2.m.nodes.length)), q71.2.e, q71.2.p) : ((List GTok) × Int × (Str × Int × (TList Str) × (TList Int) × Vh) × Int × Int)), tokE g71.1, tokE g71.2, vecE g11.2.2.1 (q71.2.m.nodes : List GNode)]) (.cons .here (.cons .here (.cons .here (.cons .here .nil)))) h 3 rfl (fun q71 g71 h => ?_) (fun J72 h hJ72 => ?_))
       ·
        refine oA rfl (rnf (w_condM h rfl (fun _ h => ?_) (fun _ h => ?_)))
        ·
         refine wsr (oM rfl (ck_inv h fun q77 h => oV (v_add rfl rfl q77) (oA rfl ?_)))
         refine rnf (w_seq ?_)
         refine w_J (ι := GPar × GNode) (γ := Tok × Tok × Vt × Tok × Tok) (fun q78 g78 => []) (fun q78 g78 => [boxE b_a_x ((q78.1.l, q78.1.at_, (q78.1.m.name, q78.1.m.tagging, (TList.mk g78.1 q78.1.m.names), (TList.mk g78.2.1 q78.1.m.types), (Vh.mk g78.2.2.1 q78.1.m.nodes.length)), q78.1.e, q78.1.p) : ((List GTok) × Int × (Str × Int × (TList Str) × (TList Int) × Vh) × Int × Int)), tokE g78.1, tokE g78.2.1, vecE g78.2.2.1 (q78.1.m.nodes : List GNode), boxE b_a_n_ ((q78.2.kind, q78.2.name, q78.2.mark, q78.2.con, (TList.mk g78.2.2.2.1 q78.2.items), (TList.mk g78.2.2.2.2 q78.2.fields), q78.2.root, q78.2.more, q78.2.of) : (Int × Str × GMark × GCon × (TList GItem) × (TList GFld) × Int × Bool × Int)), tokE g78.2.2.2.1, tokE g78.2.2.2.2]) (.cons .here (.cons (.there (.there (.there .here))) (.cons .here (.cons .here (.cons .here (.cons .here (.cons .here .nil))))))) h (fun q78 g78 h => ?_) (fun J79 h hJ79 => ?_)
         ·
          refine w_region (oM rfl (cal_inv h fun y101 hy101 h => oT (t_call (r05_parser_must_w hy101) hT (.same rfl (.same rfl .nil)) (.cons .here (.cons .here (.cons .here (.cons .here .nil)))) (fun R H' hR => ?_))))
          obtain ⟨t102, t103, rfl, rfl⟩ := hR
          exact rl_nil (fin_block (hJ64 _ (t102, t103, g78.2.2.1, g78.2.2.2.1, g78.2.2.2.2) h _ (join_imp 20 rfl rfl (mod_cons (j := 6) rfl (fun _ _ h => h) mod_nil) (.cons .here (.cons .here (.cons .here (.cons .here (.cons .here (.cons .here (.cons .here .nil))))))))))
         ·
          refine w_block ?_
          refine w_lp (ι := GPar × GNode) (γ := Tok × Tok × Vt × Tok × Tok) (fun q80 g80 => []) (fun q80 g80 => [boxE b_a_x ((q80.1.l, q80.1.at_, (q80.1.m.name, q80.1.m.tagging, (TList.mk g80.1 q80.1.m.names), (TList.mk g80.2.1 q80.1.m.types), (Vh.mk g80.2.2.1 q80.1.m.nodes.length)), q80.1.e, q80.1.p) : ((List GTok) × Int × (Str × Int × (TList Str) × (TList Int) × Vh) × Int × Int)), tokE g80.1, tokE g80.2.1, vecE g80.2.2.1 (q80.1.m.nodes : List GNode), boxE b_a_n_ ((q80.2.kind, q80.2.name, q80.2.mark, q80.2.con, (TList.mk g80.2.2.2.1 q80.2.items), (TList.mk g80.2.2.2.2 q80.2.fields), q80.2.root, q80.2.more, q80.2.of) : (Int × Str × GMark × GCon × (TList GItem) × (TList GFld) × Int × Bool × Int)), tokE g80.2.2.2.1, tokE g80.2.2.2.2]) h (g71.1, g71.2, g11.2.2.1, g11.2.2.2.1, g11.2.2.2.2) mod_nil (.cons .here (.cons .here (.cons .here (.cons .here (.cons .here (.cons .here (.cons .here .nil))))))) (fun L81 q80 g80 Q100 h hL81 eL81 rL81 => ?_)
          refine w_seq (wsr (oM rfl (oV (v_nilCheck rfl) (oV (v_fa rfl pt129_0_3 fd129_3) ?_))))
          refine oT (t_loadC (R := isv (q80.1.e)) ty65 rfl .here (fun _ _ h => h) (oV (v_eql rfl rfl) (rnf (w_condM h rfl (fun _ h => ?_) (fun _ h => ?_)))))
          ·
           refine wkf (w_block (wsr (oM rfl (oM rfl ?_))))
           refine oM rfl (oM rfl (cal_inv h fun y91 hy91 h => oT (t_call (h_r05_parser_field hy91) hT (.same rfl (.same rfl (.same rfl (.same rfl .nil)))) (.cons .here (.cons .here (.cons .here (.cons .here (.cons .here (.cons .here (.cons .here .nil))))))) (fun R H' hR => ?_))))
           obtain ⟨t92, t93, v94, t95, t96, rfl, rfl⟩ := hR
           refine rnf (wsr (oM rfl (cal_inv h fun y97 hy97 h => oT (t_call (r05_parser_is_w hy97) hT (.same rfl (.same rfl .nil)) (.cons .here (.cons .here (.cons .here (.cons .here .nil)))) (fun R H' hR => ?_)))))
           obtain ⟨t98, t99, rfl, rfl⟩ := hR
           refine oV (v_not rfl) (rnf (w_condM h rfl (fun _ h => ?_) (fun _ h => ?_)))
           ·
            exact w_exit (exi_pass rfl (eL81 _ _ (exi_block (hJ79 _ (t98, t99, v94, t95, t96) h _ (join_imp 13 rfl rfl mod_nil (.cons .here (.cons .here (.cons .here (.cons .here (.cons .here (.cons .here (.cons .here .nil))))))))))))
           ·
            exact w_skip (fin_block (hL81 _ (t98, t99, v94, t95, t96) h _ (join_imp 13 rfl rfl mod_nil (.cons .here (.cons .here (.cons .here (.cons .here (.cons .here (.cons .here (.cons .here .nil))))))))))
          ·
           exact w_exit (exi_nxt (eL81 _ _ (exi_block (hJ79 _ (g80.1, g80.2.1, g80.2.2.1, g80.2.2.2.1, g80.2.2.2.2) h _ (join_imp 5 rfl rfl mod_nil (.cons .here (.cons .here (.cons .here (.cons .here (.cons .here (.cons .here (.cons .here .nil))))))))))))
        ·
         refine w_region (oM rfl (oM rfl (oM rfl (cal_inv h fun y104 hy104 h => ?_))))
         refine oT (t_call (h_r05_parser_field hy104) hT (.same rfl (.same rfl (.same rfl (.same rfl .nil)))) (.cons .here (.cons .here (.cons .here (.cons .here (.cons .here (.cons .here (.cons .here .nil))))))) (fun R H' hR => ?_))
         obtain ⟨t105, t106, v107, t108, t109, rfl, rfl⟩ := hR
         exact rl_nil (fin_block (hJ64 _ (t105, t106, v107, t108, t109) h _ (join_imp 19 rfl rfl (mod_cons (j := 6) rfl (fun _ _ h => h) mod_nil) (.cons .here (.cons .here (.cons .here (.cons .here (.cons .here (.cons .here (.cons .here .nil))))))))))
       ·
        refine rl_condM (j := 44) h rfl (fun g73 h => ?_) (fun g73 h => ?_)
        ·
         refine oK 44 rfl rfl rfl g73 (v_move rfl) (cal_inv h fun y74 hy74 h => op_take rfl rfl (dj := 44) rfl g73 (t_call (r05_parser_is_w hy74) hT (.same rfl (.same rfl .nil)) (.cons .here (.cons .here (.cons .here (.cons .here .nil)))) (fun R H' hR => ?_)))
         obtain ⟨t75, t76, rfl, rfl⟩ := hR
         exact oV (v_pick_t rfl g73 rfl) (hJ72 _ (t75, t76) h _ (join_imp 3 rfl rfl (mod_cons (j := 47) rfl (fun _ _ h => h) mod_nil) (.cons .here (.cons .here (.cons .here (.cons .here (.cons .here (.cons .here (.cons .here .nil)))))))))
        ·
         exact oP 44 rfl rfl g73 (oP 44 rfl rfl g73 (oV (v_pick_f rfl g73 rfl) (hJ72 _ (g65.1, g65.2) h _ (join_imp 3 rfl rfl (mod_cons (j := 47) rfl (fun _ _ h => h) mod_nil) (.cons .here (.cons .here (.cons .here (.cons .here (.cons .here (.cons .here (.cons .here .nil)))))))))))
     ·
      refine rl_condM (j := 24) h rfl (fun g67 h => ?_) (fun g67 h => ?_)
      ·
       refine oK 24 rfl rfl rfl g67 (v_move rfl) (cal_inv h fun y68 hy68 h => op_take rfl rfl (dj := 24) rfl g67 (t_call (r05_parser_is_w hy68) hT (.same rfl (.same rfl .nil)) (.cons .here (.cons .here (.cons .here (.cons .here .nil)))) (fun R H' hR => ?_)))
       obtain ⟨t69, t70, rfl, rfl⟩ := hR
       exact oV (v_pick_t rfl g67 rfl) (hJ66 _ (t69, t70) h _ (join_imp 3 rfl rfl (mod_cons (j := 27) rfl (fun _ _ h => h) mod_nil) (.cons .here (.cons .here (.cons .here (.cons .here (.cons .here (.cons .here (.cons .here .nil)))))))))
      ·
       exact oP 24 rfl rfl g67 (oP 24 rfl rfl g67 (oV (v_pick_f rfl g67 rfl) (hJ66 _ (g11.1, g11.2.1) h _ (join_imp 3 rfl rfl (mod_cons (j := 27) rfl (fun _ _ h => h) mod_nil) (.cons .here (.cons .here (.cons .here (.cons .here (.cons .here (.cons .here (.cons .here .nil)))))))))))
   ·
    exact w_exit (exi_nxt (eL12 _ _ (exi_block (hJ10 _ (g11.1, g11.2.1, g11.2.2.1, g11.2.2.2.1, g11.2.2.2.2) h _ (join_imp 6 rfl rfl (mod_cons (j := 6) rfl (fun _ _ _ => trivial) mod_nil) (.cons .here (.cons .here (.cons .here (.cons .here (.cons .here (.cons .here (.cons .here .nil))))))))))))

theorem r05_parser_field_grp_w : ∀ n, r05_parser_field_C (r05_parser_field n) ∧ r05_parser_typ_C (r05_parser_typ n) ∧ r05_parser_base_C (r05_parser_base n) ∧ r05_parser_fields_C (r05_parser_fields n)
 | 0 => ⟨fun h => (by cases h), fun h => (by cases h), fun h => (by cases h), fun h => (by cases h)⟩
 | n + 1 => by
  obtain ⟨h0, h1, h2, h3⟩ := r05_parser_field_grp_w n
  exact ⟨r05_parser_field_w0 h0 h1 h2 h3, r05_parser_typ_w0 h0 h1 h2 h3, r05_parser_base_w0 h0 h1 h2 h3, r05_parser_fields_w0 h0 h1 h2 h3⟩
theorem r05_parser_typ_w (n : Nat) : r05_parser_typ_C (r05_parser_typ n) := (r05_parser_field_grp_w n).2.1
end Go.Proofs.YtnnijoepfgnlfaaGreatDoor


namespace Go.Proofs.YtnnijoepfgnlfaaGreatDoor
open Go.Sy
set_option maxRecDepth 4000
theorem r05_Parse_w : ∀ {a_text : Str} {r : GMod × Int × Int}, r05_Parse a_text = some r → Ctr Tryz.prog 39 [isv (a_text)] [] (fun R H => R = oneOf [isv (r.1), isv (r.2.1), isv (r.2.2)] ∧ H = []) := by
 intro a_text r h
 unfold r05_Parse at h
 refine spec_intro Tryz.func39 rfl (by decide +kernel) (by rfl) fun w0 S0 hT => ?_
 refine wsr (oT (t_alloc _ ze73 fun b1 => oA rfl (oA rfl (rnf ?_))))
 refine wsr (oM rfl (cal_inv h fun y2 hy2 h => oT (t_call (r04_Tokens_w hy2) hT (.same rfl .nil) .nil (fun R H' hR => ?_))))
 obtain ⟨rfl, rfl⟩ := hR
 refine oM rfl (oV (v_extract rfl rfl) (oV (v_extract rfl rfl) (oV (v_extract rfl rfl) (oA rfl ?_))))
 refine oA rfl (oA rfl (rnf (w_seq (wsr ?_))))
 refine oM rfl (oV (v_neq rfl rfl) (rnf (w_condM h rfl (fun _ h => ?_) (fun _ h => ?_))))
 ·
  refine wsr (oV (v_build (z := (GMod.mk (Str.mk []) (0 : Int) ([] : (List Str)) ([] : (List Int)) ([] : (List GNode)))) rfl bu73 ze73 .nil) (oM rfl (oM rfl (oT (t_storeC (y' := ((GMod.mk (Str.mk []) (0 : Int) ([] : (List Str)) ([] : (List Int)) ([] : (List GNode))) : GMod)) ty73 rfl rfl (fun _ _ h => h) .here rfl ?_)))))
  refine oA rfl (oA rfl (rnf (w_ret (ret_nxt ?_))))
  refine ret_post (.cell rfl .here ty73 (.tmp rfl (.tmp rfl .nil))) .nil ?_
  obtain rfl := Option.some.inj h
  exact ⟨rfl, rfl⟩
 ·
  refine wkf (wsr (oM rfl (oV (v_build (z := ((y2.1, (0 : Int), ((Str.mk []), (0 : Int), (TList.mk none ([] : (List Str))), (TList.mk none ([] : (List Int))), (Vh.mk none 0)), (0 : Int), (0 : Int)) : ((List GTok) × Int × (Str × Int × (TList Str) × (TList Int) × Vh) × Int × Int))) rfl bu129 zt129_0 (.cons pt129_0_0 fd129_0 rfl (fun _ _ h => h) .nil)) (oT (t_boxC (y := ((y2.1, (0 : Int), ((Str.mk []), (0 : Int), (TList.mk none ([] : (List Str))), (TList.mk none ([] : (List Int))), (Vh.mk none 0)), (0 : Int), (0 : Int)) : ((List GTok) × Int × (Str × Int × (TList Str) × (TList Int) × Vh) × Int × Int))) rfl (fun _ _ h => h) fun b3 => ?_)))))
  refine rl_upd (upd_tok) (rl_upd (upd_tok) (rl_upd (upd_vec (α := GNode)) (oA rfl (rnf ?_))))
  refine wsr (oM rfl (oM rfl (cal_inv h fun y7 hy7 h => oT (t_call (r05_parser_kind_w hy7) hT (.same rfl (.same rfl .nil)) (.cons (.there (.there (.there .here))) (.cons (.there (.there .here)) (.cons (.there .here) (.cons .here .nil)))) (fun R H' hR => ?_)))))
  obtain ⟨t8, t9, rfl, rfl⟩ := hR
  refine oV (v_nilCheck rfl) (oV (v_fa rfl pt129_0_2 fd129_2) (oV (v_fa rfl pt73_0_0 fd73_0) (oT (t_storeC (y' := ((y7.2.l, y7.2.at_, (y7.1, y7.2.m.tagging, (TList.mk t8 y7.2.m.names), (TList.mk t9 y7.2.m.types), (Vh.mk none y7.2.m.nodes.length)), y7.2.e, y7.2.p) : ((List GTok) × Int × (Str × Int × (TList Str) × (TList Int) × Vh) × Int × Int))) ty9 rfl rfl (fun _ _ h => h) .here rfl (rnf ?_)))))
  refine wsr (oM rfl (cal_inv h fun y10 hy10 h => oT (t_call (r05_parser_must_w hy10) hT (.same rfl (.same rfl .nil)) (.cons .here (.cons .here (.cons .here (.cons .here .nil)))) (fun R H' hR => ?_))))
  obtain ⟨t11, t12, rfl, rfl⟩ := hR
  refine rnf (w_seq (w_J (ι := GPar) (γ := Tok × Tok) (fun q13 g13 => []) (fun q13 g13 => [boxE b3 ((q13.l, q13.at_, (q13.m.name, q13.m.tagging, (TList.mk g13.1 q13.m.names), (TList.mk g13.2 q13.m.types), (Vh.mk none q13.m.nodes.length)), q13.e, q13.p) : ((List GTok) × Int × (Str × Int × (TList Str) × (TList Int) × Vh) × Int × Int)), tokE g13.1, tokE g13.2, vecE none (q13.m.nodes : List GNode)]) (.cons .here (.cons .here (.cons .here (.cons .here .nil)))) h (fun q13 g13 h => ?_) (fun J14 h hJ14 => ?_)))
  ·
   refine wsr (oM rfl (cal_inv h fun y33 hy33 h => oT (t_call (r05_parser_must_w hy33) hT (.same rfl (.same rfl .nil)) (.cons .here (.cons .here (.cons .here (.cons .here .nil)))) (fun R H' hR => ?_))))
   obtain ⟨t34, t35, rfl, rfl⟩ := hR
   refine rnf (wsr (oM rfl (cal_inv h fun y36 hy36 h => oT (t_call (r05_parser_must_w hy36) hT (.same rfl (.same rfl .nil)) (.cons .here (.cons .here (.cons .here (.cons .here .nil)))) (fun R H' hR => ?_)))))
   obtain ⟨t37, t38, rfl, rfl⟩ := hR
   refine rnf (w_seq (w_block (w_lp (ι := GPar) (γ := Tok × Tok × Vt) (fun q39 g39 => []) (fun q39 g39 => [boxE b3 ((q39.l, q39.at_, (q39.m.name, q39.m.tagging, (TList.mk g39.1 q39.m.names), (TList.mk g39.2.1 q39.m.types), (Vh.mk g39.2.2 q39.m.nodes.length)), q39.e, q39.p) : ((List GTok) × Int × (Str × Int × (TList Str) × (TList Int) × Vh) × Int × Int)), tokE g39.1, tokE g39.2.1, vecE g39.2.2 (q39.m.nodes : List GNode)]) h (t37, t38, none) mod_nil (.cons .here (.cons .here (.cons .here (.cons .here .nil)))) (fun L40 q39 g39 Q141 h hL40 eL40 rL40 => w_seq ?_))))
   refine wsr (oM rfl (oV (v_nilCheck rfl) (oV (v_fa rfl pt129_0_3 fd129_3) (oT (t_loadC (R := isv (q39.e)) ty65 rfl .here (fun _ _ h => h) ?_)))))
   refine oV (v_eql rfl rfl) (oM rfl (rl_j (ι := Bool × GPar) (γ := Tok × Tok) (fun q91 g91 => [(70, isv (q91.1))]) (fun q91 g91 => [boxE b3 ((q91.2.l, q91.2.at_, (q91.2.m.name, q91.2.m.tagging, (TList.mk g91.1 q91.2.m.names), (TList.mk g91.2 q91.2.m.types), (Vh.mk g39.2.2 q91.2.m.nodes.length)), q91.2.e, q91.2.p) : ((List GTok) × Int × (Str × Int × (TList Str) × (TList Int) × Vh) × Int × Int)), tokE g91.1, tokE g91.2, vecE g39.2.2 (q91.2.m.nodes : List GNode)]) (.cons .here (.cons .here (.cons .here (.cons .here .nil)))) h 4 rfl (fun q91 g91 h => ?_) (fun J92 h hJ92 => ?_)))
   ·
    refine rnf (w_condM h rfl (fun _ h => ?_) (fun _ h => ?_))
    ·
     refine wkf (w_block (wsr (oM rfl (cal_inv h fun y97 hy97 h => ?_))))
     refine oT (t_call (r05_parser_now_w hy97) hT (.same rfl .nil) (.cons .here (.cons .here (.cons .here (.cons .here .nil)))) (fun R H' hR => ?_))
     obtain ⟨t98, t99, rfl, rfl⟩ := hR
     refine oT (t_alloc _ ze133 fun b100 => oT (t_storeC (y' := (y97.1 : GTok)) ty133 rfl rfl (fun _ _ h => h) .here rfl (rl_upd (upd_imm 9 .here rfl) (rnf (wsr ?_)))))
     refine oM rfl (cal_inv h fun y101 hy101 h => oT (t_call (r05_parser_kind_w hy101) hT (.same rfl (.same rfl .nil)) (.cons .here (.cons .here (.cons .here (.cons .here .nil)))) (fun R H' hR => ?_)))
     obtain ⟨t102, t103, rfl, rfl⟩ := hR
     refine oA rfl (rnf (w_seq (wsr (oM rfl ?_))))
     refine oV (v_nilCheck rfl) (oV (v_fa rfl pt129_0_3 fd129_3) (oT (t_loadC (R := isv (y101.2.e)) ty65 rfl .here (fun _ _ h => h) (oV (v_eql rfl rfl) (oM rfl ?_)))))
     refine rl_j (jb 88) je .nil h 8 rfl (fun q104 g104 h => ?_) (fun J105 h hJ105 => ?_)
     ·
      refine rnf (w_J (ι := GPar) (γ := Tok × Tok) (fun q107 g107 => []) (fun q107 g107 => [boxE b3 ((q107.l, q107.at_, (q107.m.name, q107.m.tagging, (TList.mk g107.1 q107.m.names), (TList.mk g107.2 q107.m.types), (Vh.mk g39.2.2 q107.m.nodes.length)), q107.e, q107.p) : ((List GTok) × Int × (Str × Int × (TList Str) × (TList Int) × Vh) × Int × Int)), tokE g107.1, tokE g107.2, vecE g39.2.2 (q107.m.nodes : List GNode)]) (.cons .here (.cons .here (.cons .here (.cons .here .nil)))) h (fun q107 g107 h => ?_) (fun J108 h hJ108 => ?_))
      ·
       refine wsr (oM rfl (cal_inv h fun y112 hy112 h => oT (t_call (r05_parser_must_w hy112) hT (.same rfl (.same rfl .nil)) (.cons .here (.cons .here (.cons .here (.cons .here .nil)))) (fun R H' hR => ?_))))
       obtain ⟨t113, t114, rfl, rfl⟩ := hR
       refine rnf (wsr (oM rfl (cal_inv h fun y115 hy115 h => oT (t_call (r05_parser_typ_w fuel hy115) hT (.same rfl (.same rfl .nil)) (.cons .here (.cons .here (.cons .here (.cons .here .nil)))) (fun R H' hR => ?_)))))
       obtain ⟨t116, t117, v118, rfl, rfl⟩ := hR
       refine oA rfl (rnf (wsr (oM rfl (oM rfl ?_))))
       refine oV (v_nilCheck rfl) (oV (v_fa rfl pt129_0_2 fd129_2) (oV (v_fa rfl pt73_0_2 fd73_2) (oT (t_loadC (R := appv t116 (y115.2.m.names)) ty22 rfl .here isvT1 (oM rfl ?_)))))
       refine oT (t_buildSlice (l := ([y101.1] : (List Str))) el22 (.cons rfl (fun _ _ h => h) .nil) rfl rfl (asr_inv h fun q121 h => oT (t_appC (l := y115.2.m.names) (m := ([y101.1] : (List Str))) ap22_22 rfl (fun _ _ h => h) rfl appv_isv (.there .here) q121 fun t120 => oV (v_nilCheck rfl) (oV (v_fa rfl pt129_0_2 fd129_2) ?_))))
       refine oV (v_fa rfl pt73_0_2 fd73_2) (oT (t_storeC (y' := ((y115.2.l, y115.2.at_, (y115.2.m.name, y115.2.m.tagging, (TList.mk t120 (y115.2.m.names ++ ([y101.1] : (List Str)))), (TList.mk t117 y115.2.m.types), (Vh.mk v118 y115.2.m.nodes.length)), y115.2.e, y115.2.p) : ((List GTok) × Int × (Str × Int × (TList Str) × (TList Int) × Vh) × Int × Int))) ty22 rfl rfl isvT2 (.there .here) rfl (rnf (w_region (oM rfl ?_)))))
       refine oM rfl (oV (v_nilCheck rfl) (oV (v_fa rfl pt129_0_2 fd129_2) (oV (v_fa rfl pt73_0_3 fd73_3) (oT (t_loadC (R := appv t117 (y115.2.m.types)) ty23 rfl .here isvT1 ?_)))))
       refine oM rfl (oT (t_buildSlice (l := ([y115.1] : (List Int))) el23 (.cons rfl (fun _ _ h => h) .nil) rfl rfl (asr_inv h fun q124 h => oT (t_appC (l := y115.2.m.types) (m := ([y115.1] : (List Int))) ap23_23 rfl (fun _ _ h => h) rfl appv_isv (.there (.there .here)) q124 fun t123 => oV (v_nilCheck rfl) ?_))))
       refine oV (v_fa rfl pt129_0_2 fd129_2) (oV (v_fa rfl pt73_0_3 fd73_3) (oT (t_storeC (y' := ((y115.2.l, y115.2.at_, (y115.2.m.name, y115.2.m.tagging, (TList.mk t120 (y115.2.m.names ++ ([y101.1] : (List Str)))), (TList.mk t123 (y115.2.m.types ++ ([y115.1] : (List Int)))), (Vh.mk v118 y115.2.m.nodes.length)), y115.2.e, y115.2.p) : ((List GTok) × Int × (Str × Int × (TList Str) × (TList Int) × Vh) × Int × Int))) ty23 rfl rfl isvT2 (.there .here) rfl (rl_nil (fin_block ?_)))))
       exact hL40 _ (t120, t123, v118) h _ (join_imp 50 rfl rfl mod_nil (.cons .here (.cons (.there .here) (.cons .here (.cons .here (.cons .here .nil))))))
      ·
       refine w_condM h rfl (fun _ h => ?_) (fun _ h => ?_)
       ·
        refine w_region (oM rfl (oV (v_loadI ty133 rfl) (cal_inv h fun y109 hy109 h => oT (t_call (r05_parser_fail_w hy109) hT (.same rfl (.same rfl (.same rfl .nil))) (.cons .here (.cons .here (.cons .here (.cons .here .nil)))) (fun R H' hR => ?_)))))
        obtain ⟨t110, t111, rfl, rfl⟩ := hR
        exact rl_nil (hJ108 _ (t110, t111) h _ (join_imp 3 rfl rfl mod_nil (.cons .here (.cons .here (.cons .here (.cons .here (.cons .here .nil)))))))
       ·
        exact w_skip (hJ108 _ (t102, t103) h _ (join_imp 0 rfl rfl mod_nil (.cons .here (.cons .here (.cons .here (.cons .here (.cons .here .nil)))))))
     ·
      refine rl_condM (j := 80) h rfl (fun g106 h => ?_) (fun g106 h => ?_)
      ·
       refine oK 80 rfl rfl rfl g106 (v_move rfl) (oK 80 rfl rfl rfl g106 (v_nilCheck rfl) (oK 80 rfl rfl rfl g106 (v_fa rfl pt129_0_2 fd129_2) (oK 80 rfl rfl rfl g106 (v_fa rfl pt73_0_2 fd73_2) (op_take rfl rfl (dj := 80) rfl g106 (t_loadC (R := appv t102 (y101.2.m.names)) ty22 rfl .here isvT1 ?_)))))
       exact oK 80 rfl rfl rfl g106 (v_ln (l := y101.2.m.names) rfl appv_isv sl22) (oK 80 rfl rfl rfl g106 (v_geq rfl rfl) (oV (v_pick_t rfl g106 rfl) (hJ105 _ () h _ (join_imp 8 rfl rfl (mod_cons (j := 88) rfl (fun _ _ h => h) mod_nil) (.cons .here (.cons .here (.cons .here (.cons .here (.cons .here .nil)))))))))
      ·
       refine oP 80 rfl rfl g106 (oP 80 rfl rfl g106 (oP 80 rfl rfl g106 (oP 80 rfl rfl g106 (oP 80 rfl rfl g106 ?_))))
       exact oP 80 rfl rfl g106 (oP 80 rfl rfl g106 (oV (v_pick_f rfl g106 rfl) (hJ105 _ () h _ (join_imp 8 rfl rfl (mod_cons (j := 88) rfl (fun _ _ h => h) mod_nil) (.cons .here (.cons .here (.cons .here (.cons .here (.cons .here .nil)))))))))
    ·
     refine w_exit (exi_nxt (eL40 _ _ (exi_block (fin_nxt ?_))))
     refine w_seq (wsr (oM rfl (oV (v_nilCheck rfl) (oV (v_fa rfl pt129_0_3 fd129_3) ?_))))
     refine oT (t_loadC (R := isv (q91.2.e)) ty65 rfl .here (fun _ _ h => h) (oV (v_eql rfl rfl) (oM rfl (rl_j (ι := Bool × GPar) (γ := Tok × Tok) (fun q125 g125 => [(130, isv (q125.1))]) (fun q125 g125 => [boxE b3 ((q125.2.l, q125.2.at_, (q125.2.m.name, q125.2.m.tagging, (TList.mk g125.1 q125.2.m.names), (TList.mk g125.2 q125.2.m.types), (Vh.mk g39.2.2 q125.2.m.nodes.length)), q125.2.e, q125.2.p) : ((List GTok) × Int × (Str × Int × (TList Str) × (TList Int) × Vh) × Int × Int)), tokE g125.1, tokE g125.2, vecE g39.2.2 (q125.2.m.nodes : List GNode)]) (.cons .here (.cons .here (.cons .here (.cons .here .nil)))) h 5 rfl (fun q125 g125 h => ?_) (fun J126 h hJ126 => ?_)))))
     ·
      refine rnf (w_J (ι := GPar) (γ := Tok × Tok) (fun q131 g131 => []) (fun q131 g131 => [boxE b3 ((q131.l, q131.at_, (q131.m.name, q131.m.tagging, (TList.mk g131.1 q131.m.names), (TList.mk g131.2 q131.m.types), (Vh.mk g39.2.2 q131.m.nodes.length)), q131.e, q131.p) : ((List GTok) × Int × (Str × Int × (TList Str) × (TList Int) × Vh) × Int × Int)), tokE g131.1, tokE g131.2, vecE g39.2.2 (q131.m.nodes : List GNode)]) (.cons .here (.cons .here (.cons .here (.cons .here .nil)))) h (fun q131 g131 h => ?_) (fun J132 h hJ132 => ?_))
      ·
       refine w_seq (wsr (oM rfl (oV (v_nilCheck rfl) (oV (v_fa rfl pt129_0_3 fd129_3) ?_))))
       refine oT (t_loadC (R := isv (q131.e)) ty65 rfl .here (fun _ _ h => h) (oV (v_neq rfl rfl) (rnf (w_condM h rfl (fun _ h => ?_) (fun _ h => ?_)))))
       ·
        refine w_seq (w_pinN 8 .here rfl (fun o139 hn140 => w_regionD (.v 0 (.v 1 (.v 2 (.v 3 (.v 4 (.v 5 (.v 6 (.v 7 (.v 8 (.t 9 (.v 10 (.v 11 .nil)))))))))))) moOrd (by kernel_rfl) ?_))
        refine rd_v rfl (v_build (z := (GMod.mk (Str.mk []) (0 : Int) ([] : (List Str)) ([] : (List Int)) ([] : (List GNode)))) rfl bu73 ze73 .nil) (rvm rfl rfl (rd_v rfl (v_nilCheckP rfl) (rd_v rfl (v_fp rfl pt129_0_4 fd129_4) (rd_v rfl (v_lpC (R := isv (q131.p)) ty3 rfl (List.Mem.head _) (fun _ _ h => h)) ?_))))
        refine rvm rfl rfl (rd_v rfl (v_nilCheckP rfl) (rd_v rfl (v_fp rfl pt129_0_3 fd129_3) (rd_v rfl (v_lpC (R := isv (q131.e)) ty65 rfl (List.Mem.head _) (fun _ _ h => h)) (rd_t rfl rfl (t_storeC (y' := ((GMod.mk (Str.mk []) (0 : Int) ([] : (List Str)) ([] : (List Int)) ([] : (List GNode))) : GMod)) ty73 rfl rfl (fun _ _ h => h) (.there (.there (.there .here))) rfl ?_)))))
        refine rd_v rfl (v_assign rfl) (rd_v rfl (v_assign rfl) (rd_nil (fin_unpinN 8 hn140 rfl (fin_nxt ?_))))
        refine w_ret (ret_nxt (ret_post (.cell rfl (.there .here) ty73 (.tmp rfl (.tmp rfl .nil))) .nil ?_))
        obtain rfl := Option.some.inj h
        exact ⟨rfl, rfl⟩
       ·
        refine wkf (wsr (oM rfl (oV (v_nilCheck rfl) (oV (v_fa rfl pt129_0_2 fd129_2) ?_))))
        refine rl_upd (upd_frzB (y := ((q131.l, q131.at_, (q131.m.name, q131.m.tagging, (TList.mk g131.1 q131.m.names), (TList.mk g131.2 q131.m.types), q131.m.nodes), q131.e, q131.p) : ((List GTok) × Int × (Str × Int × (TList Str) × (TList Int) × (List GNode)) × Int × Int))) (.there (.there (.there .here))) .here (fun S hv => (Cv.pair Cv.id (Cv.pair Cv.id (Cv.pair (Cv.pair Cv.id (Cv.pair Cv.id (Cv.pair Cv.id (Cv.pair Cv.id (Cv.vh hv (by first | rfl | simp)))))) (Cv.pair Cv.id Cv.id)))))) ?_
        refine rl_upd (upd_slot (R' := ptrv b3 ((Fld.id (((List GTok) × Int × (Str × Int × (TList Str) × (TList Int) × (List GNode)) × Int × Int))).comp pt129_1_2)) 151 rfl (fun _ _ h => h)) (oT (t_loadC (y := ((q131.l, q131.at_, (q131.m.name, q131.m.tagging, (TList.mk g131.1 q131.m.names), (TList.mk g131.2 q131.m.types), q131.m.nodes), q131.e, q131.p) : ((List GTok) × Int × (Str × Int × (TList Str) × (TList Int) × (List GNode)) × Int × Int))) (R := isv (((q131.m.name, q131.m.tagging, (TList.mk g131.1 q131.m.names), (TList.mk g131.2 q131.m.types), q131.m.nodes)) : ((Str × Int × (TList Str) × (TList Int) × (List GNode))))) ty73 rfl .here (by exact (fun _ _ h => h)) ?_))
        refine rl_upd (upd_slot (R' := isv (q131.m)) 152 rfl (Cv.isv rfl fun S => (fun cs h => GMod.cv (x := q131.m) cs (((Cv.pair Cv.id (Cv.pair Cv.id (Cv.pair Cv.tl (Cv.pair Cv.tl Cv.id)))) : Cv S ((q131.m.name, q131.m.tagging, (TList.mk g131.1 q131.m.names), (TList.mk g131.2 q131.m.types), q131.m.nodes) : (Str × Int × (TList Str) × (TList Int) × (List GNode))) (GMod.to q131.m)) cs h)))) (oT (t_storeC (y' := (q131.m : GMod)) ty73 rfl rfl (fun _ _ h => h) (.there (.there (.there .here))) rfl (oA rfl (oA rfl (rnf ?_)))))
        refine w_ret (ret_post (.cell rfl .here ty73 (.tmp rfl (.tmp rfl .nil))) .nil ?_)
        obtain rfl := Option.some.inj h
        exact ⟨rfl, rfl⟩
      ·
       refine w_condM h rfl (fun _ h => ?_) (fun _ h => ?_)
       ·
        refine w_region (oM rfl (oM rfl (cal_inv h fun y133 hy133 h => oT (t_call (r05_parser_now_w hy133) hT (.same rfl .nil) (.cons .here (.cons .here (.cons .here (.cons .here .nil)))) (fun R H' hR => ?_)))))
        obtain ⟨t134, t135, rfl, rfl⟩ := hR
        refine cal_inv h fun y136 hy136 h => oT (t_call (r05_parser_fail_w hy136) hT (.same rfl (.same rfl (.same rfl .nil))) (.cons .here (.cons .here (.cons .here (.cons .here .nil)))) (fun R H' hR => ?_))
        obtain ⟨t137, t138, rfl, rfl⟩ := hR
        exact rl_nil (hJ132 _ (t137, t138) h _ (join_imp 4 rfl rfl mod_nil (.cons .here (.cons .here (.cons .here (.cons .here (.cons .here .nil)))))))
       ·
        exact w_skip (hJ132 _ (g125.1, g125.2) h _ (join_imp 0 rfl rfl mod_nil (.cons .here (.cons .here (.cons .here (.cons .here (.cons .here .nil)))))))
     ·
      refine rl_condM (j := 125) h rfl (fun g127 h => ?_) (fun g127 h => ?_)
      ·
       refine oK 125 rfl rfl rfl g127 (v_move rfl) (cal_inv h fun y128 hy128 h => op_take rfl rfl (dj := 125) rfl g127 (t_call (r05_parser_now_w hy128) hT (.same rfl .nil) (.cons .here (.cons .here (.cons .here (.cons .here .nil)))) (fun R H' hR => ?_)))
       obtain ⟨t129, t130, rfl, rfl⟩ := hR
       exact oK 125 rfl rfl rfl g127 (v_field GTok.f0 rfl fd133_0 rfl) (oK 125 rfl rfl rfl g127 (v_neq rfl rfl) (oV (v_pick_t rfl g127 rfl) (hJ126 _ (t129, t130) h _ (join_imp 5 rfl rfl (mod_cons (j := 130) rfl (fun _ _ h => h) mod_nil) (.cons .here (.cons .here (.cons .here (.cons .here (.cons .here .nil)))))))))
      ·
       refine oP 125 rfl rfl g127 (oP 125 rfl rfl g127 (oP 125 rfl rfl g127 (oP 125 rfl rfl g127 (oV (v_pick_f rfl g127 rfl) ?_))))
       exact hJ126 _ (g91.1, g91.2) h _ (join_imp 5 rfl rfl (mod_cons (j := 130) rfl (fun _ _ h => h) mod_nil) (.cons .here (.cons .here (.cons .here (.cons .here (.cons .here .nil))))))
   ·
    refine rl_condM (j := 66) h rfl (fun g93 h => ?_) (fun g93 h => ?_)
    ·
     refine oK 66 rfl rfl rfl g93 (v_move rfl) (cal_inv h fun y94 hy94 h => op_take rfl rfl (dj := 66) rfl g93 (t_call (r05_parser_is_w hy94) hT (.same rfl (.same rfl .nil)) (.cons .here (.cons .here (.cons .here (.cons .here .nil)))) (fun R H' hR => ?_)))
     obtain ⟨t95, t96, rfl, rfl⟩ := hR
     exact oK 66 rfl rfl rfl g93 (v_not rfl) (oV (v_pick_t rfl g93 rfl) (hJ92 _ (t95, t96) h _ (join_imp 4 rfl rfl (mod_cons (j := 70) rfl (fun _ _ h => h) mod_nil) (.cons .here (.cons .here (.cons .here (.cons .here (.cons .here .nil))))))))
    ·
     exact oP 66 rfl rfl g93 (oP 66 rfl rfl g93 (oP 66 rfl rfl g93 (oV (v_pick_f rfl g93 rfl) (hJ92 _ (g39.1, g39.2.1) h _ (join_imp 4 rfl rfl (mod_cons (j := 70) rfl (fun _ _ h => h) mod_nil) (.cons .here (.cons .here (.cons .here (.cons .here (.cons .here .nil))))))))))
  ·
   refine w_block (wsr (oM rfl (cal_inv h fun y15 hy15 h => oT (t_call (r05_parser_is_w hy15) hT (.same rfl (.same rfl .nil)) (.cons .here (.cons .here (.cons .here (.cons .here .nil)))) (fun R H' hR => ?_)))))
   obtain ⟨t16, t17, rfl, rfl⟩ := hR
   refine oA rfl (rnf (w_condM h rfl (fun _ h => ?_) (fun _ h => ?_)))
   ·
    refine w_region (oM rfl (cal_inv h fun y18 hy18 h => oT (t_call (r05_parser_must_w hy18) hT (.same rfl (.same rfl .nil)) (.cons .here (.cons .here (.cons .here (.cons .here .nil)))) (fun R H' hR => ?_))))
    obtain ⟨t19, t20, rfl, rfl⟩ := hR
    exact rl_nil (fin_block (hJ14 _ (t19, t20) h _ (join_imp 5 rfl rfl mod_nil (.cons .here (.cons .here (.cons .here (.cons .here (.cons .here .nil))))))))
   ·
    refine wsr (oM rfl (cal_inv h fun y21 hy21 h => oT (t_call (r05_parser_is_w hy21) hT (.same rfl (.same rfl .nil)) (.cons .here (.cons .here (.cons .here (.cons .here .nil)))) (fun R H' hR => ?_))))
    obtain ⟨t22, t23, rfl, rfl⟩ := hR
    refine oA rfl (rnf (w_condM h rfl (fun _ h => ?_) (fun _ h => ?_)))
    ·
     refine wsr (oM rfl (oV (v_nilCheck rfl) (oV (v_fa rfl pt129_0_2 fd129_2) (oV (v_fa rfl pt73_0_1 fd73_1) ?_))))
     refine oT (t_storeC (y' := ((y21.2.l, y21.2.at_, (y21.2.m.name, (1 : Int), (TList.mk t22 y21.2.m.names), (TList.mk t23 y21.2.m.types), (Vh.mk none y21.2.m.nodes.length)), y21.2.e, y21.2.p) : ((List GTok) × Int × (Str × Int × (TList Str) × (TList Int) × Vh) × Int × Int))) ty3 rfl rfl (fun _ _ h => h) .here rfl (rnf (w_region (oM rfl (cal_inv h fun y24 hy24 h => ?_)))))
     refine oT (t_call (r05_parser_must_w hy24) hT (.same rfl (.same rfl .nil)) (.cons .here (.cons .here (.cons .here (.cons .here .nil)))) (fun R H' hR => ?_))
     obtain ⟨t25, t26, rfl, rfl⟩ := hR
     exact rl_nil (fin_block (hJ14 _ (t25, t26) h _ (join_imp 12 rfl rfl mod_nil (.cons .here (.cons .here (.cons .here (.cons .here (.cons .here .nil))))))))
    ·
     refine wsr (oM rfl (cal_inv h fun y27 hy27 h => oT (t_call (r05_parser_is_w hy27) hT (.same rfl (.same rfl .nil)) (.cons .here (.cons .here (.cons .here (.cons .here .nil)))) (fun R H' hR => ?_))))
     obtain ⟨t28, t29, rfl, rfl⟩ := hR
     refine oA rfl (rnf (w_condM h rfl (fun _ h => ?_) (fun _ h => ?_)))
     ·
      refine wsr (oM rfl (oV (v_nilCheck rfl) (oV (v_fa rfl pt129_0_2 fd129_2) (oV (v_fa rfl pt73_0_1 fd73_1) ?_))))
      refine oT (t_storeC (y' := ((y27.2.l, y27.2.at_, (y27.2.m.name, (2 : Int), (TList.mk t28 y27.2.m.names), (TList.mk t29 y27.2.m.types), (Vh.mk none y27.2.m.nodes.length)), y27.2.e, y27.2.p) : ((List GTok) × Int × (Str × Int × (TList Str) × (TList Int) × Vh) × Int × Int))) ty3 rfl rfl (fun _ _ h => h) .here rfl (rnf (w_region (oM rfl (cal_inv h fun y30 hy30 h => ?_)))))
      refine oT (t_call (r05_parser_must_w hy30) hT (.same rfl (.same rfl .nil)) (.cons .here (.cons .here (.cons .here (.cons .here .nil)))) (fun R H' hR => ?_))
      obtain ⟨t31, t32, rfl, rfl⟩ := hR
      exact rl_nil (fin_block (hJ14 _ (t31, t32) h _ (join_imp 15 rfl rfl mod_nil (.cons .here (.cons .here (.cons .here (.cons .here (.cons .here .nil))))))))
     ·
      exact w_skip (fin_block (hJ14 _ (t28, t29) h _ (join_imp 9 rfl rfl mod_nil (.cons .here (.cons .here (.cons .here (.cons .here (.cons .here .nil))))))))

end Go.Proofs.YtnnijoepfgnlfaaGreatDoor


namespace Go.Proofs.YtnnijoepfgnlfaaGreatDoor
open Go.Sy
set_option maxRecDepth 4000
theorem r07_Find_w : ∀ {a_m : GMod} {a_name : Str} {r : Int}, r07_Find a_m a_name = some r → Ctr Tryz.prog 112 [isv (a_m), isv (a_name)] [] (fun R H => R = oneOf [isv (r)] ∧ H = []) := by
 intro a_m a_name r h
 unfold r07_Find at h
 refine spec_intro Tryz.func112 rfl (by decide +kernel) (by rfl) fun w0 S0 hT => ?_
 refine wsr (oT (t_boxIC (y := a_m) rfl (fun _ _ h => h) (oA rfl (rnf (w_seq ?_)))))
 refine wsr (oA rfl (rnf (w_block (w_lp (ι := Int) (γ := Unit) (fun q1 g1 => [(5, isv (q1))]) (fun q1 g1 => []) h () (mod_cons (j := 5) rfl (fun _ _ h => h) mod_nil) .nil (fun L2 q1 g1 Q7 h hL2 eL2 rL2 => ?_)))))
 refine w_seq (wsr (oM rfl (oV (v_fi rfl GMod.f2 fd73_2 rfl (z := a_m.names)) (oV (v_loadI ty22 rfl) ?_))))
 refine oV (v_ln (l := a_m.names) rfl (fun _ _ h => h) sl22) (oV (v_lss rfl rfl) (rnf (w_condM h rfl (fun _ h => ?_) (fun _ h => ?_))))
 ·
  refine wkf (w_seq (w_block (wsr (oV (v_fi rfl GMod.f2 fd73_2 rfl (z := a_m.names)) ?_))))
  refine oV (v_loadI ty22 rfl) (oM rfl (cal_inv h fun y5 hy5 h => oV (v_ix (l := a_m.names) rfl (fun _ _ h => h) rfl sl22 hy5) (oV (v_loadI ty9 rfl) ?_)))
  refine oM rfl (oV (v_eqA eq9 rfl rfl) (rnf (w_condM h rfl (fun _ h => ?_) (fun _ h => ?_))))
  ·
   refine wsr (oM rfl (oA rfl (rnf (w_ret ?_))))
   refine ret_block (ret_nxt (rL2 _ (ret_block (ret_nxt ?_))))
   refine ret_post (.tmp rfl .nil) .nil ?_
   obtain rfl := Option.some.inj h
   exact ⟨rfl, rfl⟩
  ·
   refine w_skip (fin_block (fin_nxt (w_region (oM rfl ?_))))
   exact ck_inv h fun q6 h => oV (v_add rfl rfl q6) (oA rfl (rl_nil (hL2 _ () h _ (ji 16 5 rfl rfl rfl))))
 ·
  refine w_exit (exi_nxt (eL2 _ _ (exi_block (fin_nxt ?_))))
  refine wsr (oA rfl (rnf (w_ret (ret_post (.tmp rfl .nil) .nil ?_))))
  obtain rfl := Option.some.inj h
  exact ⟨rfl, rfl⟩


theorem h_In_int_w : ∀ {a_l : (List Int)} {a_x : Int} {r : Bool}, h_In_int a_l a_x = some r → Ctr Tryz.prog 111 [isv (a_l), isv (a_x)] [] (fun R H => R = oneOf [isv (r)] ∧ H = []) := by
 intro a_l a_x r h
 unfold h_In_int at h
 refine spec_intro Tryz.func111 rfl (by decide +kernel) (by rfl) fun w0 S0 hT => ?_
 refine wsr (oA rfl (rnf (w_seq (wsr ?_))))
 refine oA rfl (rnf (w_block (w_lp (ι := Int) (γ := Unit) (fun q1 g1 => [(5, isv (q1))]) (fun q1 g1 => []) h () (mod_cons (j := 5) rfl (fun _ _ h => h) mod_nil) .nil (fun L2 q1 g1 Q7 h hL2 eL2 rL2 => w_seq ?_))))
 refine wsr (oM rfl (oM rfl (oV (v_ln (l := a_l) rfl (fun _ _ h => h) sl23) (oV (v_lss rfl rfl) ?_))))
 refine rnf (w_condM h rfl (fun _ h => ?_) (fun _ h => ?_))
 ·
  refine wkf (w_seq (w_block (wsr (oM rfl ?_))))
  refine oM rfl (cal_inv h fun y5 hy5 h => oV (v_ix (l := a_l) rfl (fun _ _ h => h) rfl sl23 hy5) (oV (v_loadI ty3 rfl) (oM rfl ?_)))
  refine oV (v_eql rfl rfl) (rnf (w_condM h rfl (fun _ h => ?_) (fun _ h => ?_)))
  ·
   refine wsr (oA rfl (rnf (w_ret (ret_block ?_))))
   refine ret_nxt (rL2 _ (ret_block (ret_nxt (ret_post (.tmp rfl .nil) .nil ?_))))
   obtain rfl := Option.some.inj h
   exact ⟨rfl, rfl⟩
  ·
   refine w_skip (fin_block (fin_nxt (w_region (oM rfl ?_))))
   exact ck_inv h fun q6 h => oV (v_add rfl rfl q6) (oA rfl (rl_nil (hL2 _ () h _ (ji 14 5 rfl rfl rfl))))
 ·
  refine w_exit (exi_nxt (eL2 _ _ (exi_block (fin_nxt ?_))))
  refine wsr (oA rfl (rnf (w_ret (ret_post (.tmp rfl .nil) .nil ?_))))
  obtain rfl := Option.some.inj h
  exact ⟨rfl, rfl⟩


def r07_uses_C (f' : GMod → Int → Int → (List Int) → Option ((List Int) × Bool)) : Prop :=
 ∀ {a_m : GMod} {a_node : Int} {a_depth : Int} {a_l : (List Int)} {t_a_l : Tok} {r : (List Int) × Bool}, f' a_m a_node a_depth a_l = some r → Ctr Tryz.prog 109 [isv (a_m), isv (a_node), isv (a_depth), appv t_a_l (a_l)] [tokE t_a_l] (fun R H => ∃ u1 : Tok, R = oneOf [appv u1 (r.1), isv (r.2)] ∧ H = [tokE u1])
theorem r07_uses_w0 {r07_uses' : GMod → Int → Int → (List Int) → Option ((List Int) × Bool)} (h_r07_uses : r07_uses_C r07_uses') : ∀ {a_m : GMod} {a_node : Int} {a_depth : Int} {a_l : (List Int)} {t_a_l : Tok} {r : (List Int) × Bool}, r07_uses_F r07_uses' a_m a_node a_depth a_l = some r → Ctr Tryz.prog 109 [isv (a_m), isv (a_node), isv (a_depth), appv t_a_l (a_l)] [tokE t_a_l] (fun R H => ∃ u1 : Tok, R = oneOf [appv u1 (r.1), isv (r.2)] ∧ H = [tokE u1]) := by
 intro a_m a_node a_depth a_l t_a_l r h
 unfold r07_uses_F at h
 refine spec_intro Tryz.func109 rfl (by decide +kernel) (by rfl) fun w0 S0 hT => ?_
 refine wsr (oT (t_boxIC (y := a_m) rfl (fun _ _ h => h) (oA rfl (oA rfl (rnf ?_)))))
 refine w_seq (wsr (oM rfl (oV (v_lss rfl rfl) (oM rfl ?_))))
 refine rl_j (jb 24) je .nil h 6 rfl (fun q1 g1 h => ?_) (fun J2 h hJ2 => ?_)
 ·
  refine oM rfl (rl_j (jb 28) je .nil h 3 rfl (fun q4 g4 h => ?_) (fun J5 h hJ5 => ?_))
  ·
   refine rnf (w_condM h rfl (fun _ h => ?_) (fun _ h => ?_))
   ·
    refine wsr (oM rfl (oA rfl (oA rfl (rnf ?_))))
    refine w_ret (ret_nxt (ret_post (.tmp rfl (.tmp rfl .nil)) (.cons .here .nil) ?_))
    obtain rfl := Option.some.inj h
    exact ⟨t_a_l, rfl, rfl⟩
   ·
    refine wkf (wsr (oV (v_fi rfl GMod.f4 fd73_4 rfl (z := a_m.nodes)) (oV (v_loadI ty71 rfl) (oM rfl ?_))))
    refine cal_inv h fun y7 hy7 h => oV (v_ix (l := a_m.nodes) rfl (fun _ _ h => h) rfl sl71 hy7) (oV (v_loadI ty167 rfl) (oT (t_alloc _ ze167 fun b8 => oT (t_storeC (y' := (y7 : GNode)) ty167 rfl rfl (fun _ _ h => h) .here rfl ?_))))
    refine rl_upd (upd_imm 10 .here rfl) (rnf (w_seq (wsr (oV (v_fi rfl GNode.f0 fd167_0 rfl (z := y7.kind)) ?_))))
    refine oV (v_loadI ty3 rfl) (oV (v_eql rfl rfl) (rnf (w_condM h rfl (fun _ h => ?_) (fun _ h => ?_))))
    ·
     refine wsr (oV (v_loadI ty73 rfl) (oV (v_fi rfl GNode.f1 fd167_1 rfl (z := y7.name)) (oV (v_loadI ty9 rfl) (cal_inv h fun y9 hy9 h => ?_))))
     refine oT (t_call (r07_Find_w hy9) hT (.same rfl (.same rfl .nil)) .nil (fun R H' hR => ?_))
     obtain ⟨rfl, rfl⟩ := hR
     refine oA rfl (rnf (w_seq (wsr (oM rfl ?_))))
     refine oV (v_lss rfl rfl) (rnf (w_condM h rfl (fun _ h => ?_) (fun _ h => ?_)))
     ·
      refine wsr (oM rfl (oA rfl (oA rfl (rnf ?_))))
      refine w_ret (ret_nxt (ret_nxt (ret_post (.tmp rfl (.tmp rfl .nil)) (.cons .here .nil) ?_)))
      obtain rfl := Option.some.inj h
      exact ⟨t_a_l, rfl, rfl⟩
     ·
      refine wkf (w_seq (wsr (oM rfl (oM rfl ?_))))
      refine cal_inv h fun y10 hy10 h => oT (t_call (h_In_int_w hy10) hT (.cons rfl appv_isv (.same rfl .nil)) .nil (fun R H' hR => ?_))
      obtain ⟨rfl, rfl⟩ := hR
      refine oV (v_not rfl) (rnf (w_J (ι := (List Int)) (γ := Tok) (fun q11 g11 => [(3, appv g11 (q11))]) (fun q11 g11 => [tokE g11]) (.cons .here .nil) h (fun q11 g11 h => ?_) (fun J12 h hJ12 => ?_)))
      ·
       refine wsr (oM rfl (oA rfl (oA rfl (rnf ?_))))
       refine w_ret (ret_nxt (ret_post (.tmp rfl (.tmp rfl .nil)) (.cons .here .nil) ?_))
       obtain rfl := Option.some.inj h
       exact ⟨g11, rfl, rfl⟩
      ·
       refine w_condM h rfl (fun _ h => ?_) (fun _ h => ?_)
       ·
        refine w_region (oM rfl (oM rfl (oT (t_buildSlice (l := ([y9] : (List Int))) el23 (.cons rfl (fun _ _ h => h) .nil) rfl rfl (asr_inv h fun q15 h => ?_)))))
        exact oT (t_appC (l := a_l) (m := ([y9] : (List Int))) ap23_23 rfl (fun _ _ h => h) rfl appv_isv .here q15 fun t14 => oA rfl (rl_nil (hJ12 _ (t14) h _ (join_imp 5 rfl rfl (mod_cons (j := 3) rfl (fun _ _ h => h) mod_nil) (.cons .here .nil)))))
       ·
        exact w_skip (hJ12 _ (t_a_l) h _ (join_imp 0 rfl rfl (mod_cons (j := 3) rfl (fun _ _ h => h) mod_nil) (.cons .here .nil)))
    ·
     refine wkf (wsr (oA rfl (rnf (w_seq ?_))))
     refine wsr (oA rfl (rnf (w_block (w_lp (ι := (List Int) × Bool × Int) (γ := Tok) (fun q16 g16 => [(3, appv g16 (q16.1)), (12, isv (q16.2.1)), (13, isv (q16.2.2))]) (fun q16 g16 => [tokE g16]) h (t_a_l) (mod_cons (j := 3) rfl (fun _ _ h => h) (mod_cons (j := 12) rfl (fun _ _ h => h) (mod_cons (j := 13) rfl (fun _ _ h => h) mod_nil))) (.cons .here .nil) (fun L17 q16 g16 Q44 h hL17 eL17 rL17 => ?_)))))
     refine w_seq (wsr (oM rfl (oV (v_fi rfl GNode.f5 fd167_5 rfl (z := y7.fields)) (oV (v_loadI ty85 rfl) ?_))))
     refine oV (v_ln (l := y7.fields) rfl (fun _ _ h => h) sl85) (oV (v_lss rfl rfl) (rnf (w_condM h rfl (fun _ h => ?_) (fun _ h => ?_))))
     ·
      refine wkf (w_seq (w_block (wsr (oA rfl ?_))))
      refine rnf (w_seq (w_regionD (.v 0 (.v 1 (.v 2 (.v 3 (.v 4 (.v 5 (.v 6 (.v 7 (.v 8 (.v 9 (.t 10 (.v 11 (.v 12 (.v 13 (.v 14 (.v 15 .nil)))))))))))))))) moOrd (by kernel_rfl) ?_))
      refine rd_v rfl (v_loadI ty73 rfl) (rd_v rfl (v_fi rfl GNode.f5 fd167_5 rfl (z := y7.fields)) (rd_v rfl (v_loadI ty85 rfl) (rvm rfl rfl (cal_inv h fun y28 hy28 h => ?_))))
      refine rd_v rfl (v_ix (l := y7.fields) rfl (fun _ _ h => h) rfl sl85 hy28) (rd_v rfl (v_fi rfl GFld.f1 fd92_1 rfl (z := y28.ty)) (rd_v rfl (v_loadI ty3 rfl) (rvm rfl rfl (ck_inv h fun q29 h => ?_))))
      refine rd_v rfl (v_add rfl rfl q29) (rvm rfl rfl (cal_inv h fun y30 hy30 h => rd_t rfl rfl (t_call (h_r07_uses hy30) hT (.same rfl (.same rfl (.same rfl (.same rfl .nil)))) (.cons .here .nil) (fun R H' hR => ?_))))
      obtain ⟨t31, rfl, rfl⟩ := hR
      refine rvm rfl rfl (rd_v rfl (v_extract rfl rfl) (rd_v rfl (v_extract rfl rfl) (rd_v rfl (v_assign rfl) (rd_v rfl (v_assign rfl) ?_))))
      refine rd_nil (fin_nxt (w_region (oM rfl (oM rfl ?_))))
      refine rl_j (jb 78) je .nil h 2 rfl (fun q32 g32 h => ?_) (fun J33 h hJ33 => ?_)
      ·
       refine oA rfl (rl_nil (fin_block (fin_nxt (w_region ?_))))
       refine oM rfl (ck_inv h fun q35 h => oV (v_add rfl rfl q35) (oA rfl (rl_nil ?_)))
       exact hL17 _ (t31) h _ (join_imp 32 rfl rfl (mod_cons (j := 3) rfl (fun _ _ h => h) (mod_cons (j := 12) rfl (fun _ _ h => h) (mod_cons (j := 13) rfl (fun _ _ h => h) mod_nil))) (.cons .here .nil))
      ·
       refine rl_condM (j := 76) h rfl (fun g34 h => ?_) (fun g34 h => ?_)
       ·
        exact oP 76 rfl rfl g34 (oV (v_pick_t rfl g34 rfl) (hJ33 _ () h _ (join_imp 2 rfl rfl (mod_cons (j := 78) rfl (fun _ _ h => h) mod_nil) (.cons .here .nil))))
       ·
        exact oK 76 rfl rfl rfl g34 (v_move rfl) (oV (v_pick_f rfl g34 rfl) (hJ33 _ () h _ (join_imp 2 rfl rfl (mod_cons (j := 78) rfl (fun _ _ h => h) mod_nil) (.cons .here .nil))))
     ·
      refine w_exit (exi_nxt (eL17 _ _ (exi_block (fin_nxt ?_))))
      refine w_seq (wsr (oV (v_fi rfl GNode.f0 fd167_0 rfl (z := y7.kind)) (oV (v_loadI ty3 rfl) (oV (v_eql rfl rfl) ?_))))
      refine rnf (w_J (ι := (List Int) × Bool) (γ := Tok) (fun q36 g36 => [(3, appv g36 (q36.1)), (12, isv (q36.2))]) (fun q36 g36 => [tokE g36]) (.cons .here .nil) h (fun q36 g36 h => ?_) (fun J37 h hJ37 => ?_))
      ·
       refine wsr (oM rfl (oM rfl (oA rfl (oA rfl ?_))))
       refine rnf (w_ret (ret_post (.tmp rfl (.tmp rfl .nil)) (.cons .here .nil) ?_))
       obtain rfl := Option.some.inj h
       exact ⟨g36, rfl, rfl⟩
      ·
       refine w_condM h rfl (fun _ h => ?_) (fun _ h => ?_)
       ·
        refine wsr (oA rfl (rnf (wsr (oV (v_loadI ty73 rfl) ?_))))
        refine oV (v_fi rfl GNode.f8 fd167_8 rfl (z := y7.of)) (oV (v_loadI ty3 rfl) (oM rfl (ck_inv h fun q38 h => oV (v_add rfl rfl q38) ?_)))
        refine oM rfl (cal_inv h fun y39 hy39 h => oT (t_call (h_r07_uses hy39) hT (.same rfl (.same rfl (.same rfl (.same rfl .nil)))) (.cons .here .nil) (fun R H' hR => ?_)))
        obtain ⟨t40, rfl, rfl⟩ := hR
        refine oM rfl (oV (v_extract rfl rfl) (oV (v_extract rfl rfl) (oA rfl (oA rfl ?_))))
        refine rnf (w_region (oM rfl (oM rfl (rl_j (jb 95) je .nil h 2 rfl (fun q41 g41 h => ?_) (fun J42 h hJ42 => ?_)))))
        ·
         exact oA rfl (rl_nil (hJ37 _ (t40) h _ (join_imp 17 rfl rfl (mod_cons (j := 3) rfl (fun _ _ h => h) (mod_cons (j := 12) rfl (fun _ _ h => h) mod_nil)) (.cons .here .nil))))
        ·
         refine rl_condM (j := 93) h rfl (fun g43 h => ?_) (fun g43 h => ?_)
         ·
          exact oP 93 rfl rfl g43 (oV (v_pick_t rfl g43 rfl) (hJ42 _ () h _ (join_imp 2 rfl rfl (mod_cons (j := 95) rfl (fun _ _ h => h) mod_nil) (.cons .here .nil))))
         ·
          exact oK 93 rfl rfl rfl g43 (v_move rfl) (oV (v_pick_f rfl g43 rfl) (hJ42 _ () h _ (join_imp 2 rfl rfl (mod_cons (j := 95) rfl (fun _ _ h => h) mod_nil) (.cons .here .nil))))
       ·
        exact w_skip (hJ37 _ (g16) h _ (join_imp 0 rfl rfl (mod_cons (j := 3) rfl (fun _ _ h => h) (mod_cons (j := 12) rfl (fun _ _ h => h) mod_nil)) (.cons .here .nil)))
  ·
   refine rl_condM (j := 25) h rfl (fun g6 h => ?_) (fun g6 h => ?_)
   ·
    exact oP 25 rfl rfl g6 (oP 25 rfl rfl g6 (oV (v_pick_t rfl g6 rfl) (hJ5 _ () h _ (join_imp 3 rfl rfl (mod_cons (j := 28) rfl (fun _ _ h => h) mod_nil) (.cons .here .nil)))))
   ·
    exact oK 25 rfl rfl rfl g6 (v_move rfl) (oK 25 rfl rfl rfl g6 (v_gtr rfl rfl) (oV (v_pick_f rfl g6 rfl) (hJ5 _ () h _ (join_imp 3 rfl rfl (mod_cons (j := 28) rfl (fun _ _ h => h) mod_nil) (.cons .here .nil)))))
 ·
  refine rl_condM (j := 18) h rfl (fun g3 h => ?_) (fun g3 h => ?_)
  ·
   refine oP 18 rfl rfl g3 (oP 18 rfl rfl g3 (oP 18 rfl rfl g3 (oP 18 rfl rfl g3 (oP 18 rfl rfl g3 ?_))))
   exact oV (v_pick_t rfl g3 rfl) (hJ2 _ () h _ (join_imp 6 rfl rfl (mod_cons (j := 24) rfl (fun _ _ h => h) mod_nil) (.cons .here .nil)))
  ·
   refine oK 18 rfl rfl rfl g3 (v_move rfl) (oK 18 rfl rfl rfl g3 (v_fi rfl GMod.f4 fd73_4 rfl (z := a_m.nodes)) (oK 18 rfl rfl rfl g3 (v_loadI ty71 rfl) (oK 18 rfl rfl rfl g3 (v_ln (l := a_m.nodes) rfl (fun _ _ h => h) sl71) (oK 18 rfl rfl rfl g3 (v_geq rfl rfl) ?_))))
   exact oV (v_pick_f rfl g3 rfl) (hJ2 _ () h _ (join_imp 6 rfl rfl (mod_cons (j := 24) rfl (fun _ _ h => h) mod_nil) (.cons .here .nil)))

theorem r07_uses_grp_w : ∀ n, r07_uses_C (r07_uses n)
 | 0 => fun h => (by cases h)
 | n + 1 => r07_uses_w0 (r07_uses_grp_w n)
theorem r07_uses_w (n : Nat) : r07_uses_C (r07_uses n) := (r07_uses_grp_w n)

theorem r07_reach_w : ∀ {a_graph : (List (List Int))} {a_from_ : Int} {a_to : Int} {r : Bool}, r07_reach a_graph a_from_ a_to = some r → Ctr Tryz.prog 110 [isv (a_graph), isv (a_from_), isv (a_to)] [] (fun R H => R = oneOf [isv (r)] ∧ H = []) := by
 intro a_graph a_from_ a_to r h
 unfold r07_reach at h
 refine spec_intro Tryz.func110 rfl (by decide +kernel) (by rfl) fun w0 S0 hT => ?_
 refine wsr (oA rfl (rnf (wsr (oT (t_buildSlice (l := ([] : (List Int))) el23 .nil rfl rfl ?_)))))
 refine oA rfl (rnf (wsr (oM rfl (oM rfl ?_))))
 refine cal_inv h fun y2 hy2 h => oV (v_ix (l := a_graph) rfl (fun _ _ h => h) rfl sl36 hy2) (oV (v_loadI ty23 rfl) (asr_inv h fun q4 h => oT (t_appN (m := y2) ap23_23 rfl rfl (fun _ _ h => h) q4 fun t3 => ?_)))
 refine oA rfl (rnf (w_seq (w_block (w_upd (upd_tok) ?_))))
 refine w_lp (ι := (List Int) × (List Int)) (γ := Tok × Tok) (fun q5 g5 => [(7, appv g5.1 (q5.1)), (8, appv g5.2 (q5.2))]) (fun q5 g5 => [tokE g5.1, tokE g5.2]) h (none, t3) (mod_cons (j := 7) rfl (fun _ _ h => h) (mod_cons (j := 8) rfl (fun _ _ h => h) mod_nil)) (.cons .here (.cons .here .nil)) (fun L6 q5 g5 Q27 h hL6 eL6 rL6 => w_seq (wsr (oM rfl (oV (v_ln (l := q5.2) rfl appv_isv sl23) ?_))))
 refine oV (v_gtr rfl rfl) (rnf (w_condM h rfl (fun _ h => ?_) (fun _ h => ?_)))
 ·
  refine wkf (w_block (wsr (oM rfl (cal_inv h fun y17 hy17 h => ?_))))
  refine oV (v_ix (l := q5.2) rfl appv_isv rfl sl23 hy17) (oV (v_loadI ty3 rfl) (oA rfl (rnf (wsr ?_))))
  refine oM rfl (asd_inv h fun q18 h => oT (t_slA rfl sl23 rfl q18.1 q18.2 (.there .here) fun t19 => oA rfl (rnf ?_)))
  refine w_seq (wsr (oM rfl (oM rfl (oV (v_eql rfl rfl) ?_))))
  refine rnf (w_condM h rfl (fun _ h => ?_) (fun _ h => ?_))
  ·
   refine wsr (oA rfl (rnf (w_ret (ret_nxt ?_))))
   refine ret_block (rL6 _ (ret_block (ret_nxt (ret_post (.tmp rfl .nil) .nil ?_))))
   obtain rfl := Option.some.inj h
   exact ⟨rfl, rfl⟩
  ·
   refine wkf (wsr (oM rfl (oM rfl (cal_inv h fun y20 hy20 h => ?_))))
   refine oT (t_call (h_In_int_w hy20) hT (.cons rfl appv_isv (.same rfl .nil)) .nil (fun R H' hR => ?_))
   obtain ⟨rfl, rfl⟩ := hR
   refine oV (v_not rfl) (rnf (w_condM h rfl (fun _ h => ?_) (fun _ h => ?_)))
   ·
    refine wsr (oM rfl (oM rfl (oT (t_buildSlice (l := ([y17] : (List Int))) el23 (.cons rfl (fun _ _ h => h) .nil) rfl rfl (asr_inv h fun q23 h => ?_)))))
    refine oT (t_appC (l := q5.1) (m := ([y17] : (List Int))) ap23_23 rfl (fun _ _ h => h) rfl appv_isv (.there .here) q23 fun t22 => oA rfl (rnf (w_region (oM rfl ?_))))
    refine oM rfl (oM rfl (cal_inv h fun y24 hy24 h => oV (v_ix (l := a_graph) rfl (fun _ _ h => h) rfl sl36 hy24) (oV (v_loadI ty23 rfl) ?_)))
    refine asr_inv h fun q26 h => oT (t_appC (l := (q5.2.drop ((1 : Int)).toNat)) (m := y24) ap23_23 rfl (fun _ _ h => h) rfl (fun _ _ h => h) (.there .here) q26 fun t25 => oA rfl (rl_nil (fin_block ?_)))
    exact hL6 _ (t22, t25) h _ (join_imp 31 rfl rfl (mod_cons (j := 7) rfl (fun _ _ h => h) (mod_cons (j := 8) rfl (fun _ _ h => h) mod_nil)) (.cons (.there .here) (.cons .here .nil)))
   ·
    exact w_skip (fin_block (hL6 _ (g5.1, t19) h _ (join_imp 19 rfl rfl (mod_cons (j := 7) rfl (fun _ _ h => h) (mod_cons (j := 8) rfl (fun _ _ h => h) mod_nil)) (.cons (.there .here) (.cons .here .nil)))))
 ·
  refine w_exit (exi_nxt (eL6 _ _ (exi_block (fin_nxt ?_))))
  refine wsr (oA rfl (rnf (w_ret (ret_post (.tmp rfl .nil) .nil ?_))))
  obtain rfl := Option.some.inj h
  exact ⟨rfl, rfl⟩


theorem r07_Order_w : ∀ {a_m : GMod} {r : (List Int) × Int × Int}, r07_Order a_m = some r → Ctr Tryz.prog 76 [isv (a_m)] [] (fun R H => R = oneOf [isv (r.1), isv (r.2.1), isv (r.2.2)] ∧ H = []) := by
 intro a_m r h
 unfold r07_Order at h
 refine spec_intro Tryz.func76 rfl (by decide +kernel) (by rfl) fun w0 S0 hT => ?_
 refine wsr (oT (t_boxIC (y := a_m) rfl (fun _ _ h => h) (oA rfl (oA rfl (oA rfl ?_)))))
 refine rnf (wsr (oA rfl (rnf (wsr ?_))))
 refine oA rfl (rnf (w_seq (wsr (oA rfl ?_))))
 refine rnf (w_block (w_lp (ι := Int) (γ := Unit) (fun q1 g1 => [(7, isv (q1))]) (fun q1 g1 => []) h () (mod_cons (j := 7) rfl (fun _ _ h => h) mod_nil) .nil (fun L2 q1 g1 Q1603 h hL2 eL2 rL2 => w_seq (wsr ?_))))
 refine oM rfl (oV (v_fi rfl GMod.f2 fd73_2 rfl (z := a_m.names)) (oV (v_loadI ty22 rfl) (oV (v_ln (l := a_m.names) rfl (fun _ _ h => h) sl22) (oV (v_lss rfl rfl) ?_))))
 refine rnf (w_condM h rfl (fun _ h => ?_) (fun _ h => ?_))
 ·
  refine wkf (w_seq (w_block (w_seq (w_regionD (.v 0 (.v 1 (.v 2 (.v 3 (.v 4 (.v 5 (.v 6 (.v 7 (.v 8 (.t 9 .nil)))))))))) moOrd (by kernel_rfl) ?_))))
  refine rd_v rfl (v_fi rfl GMod.f2 fd73_2 rfl (z := a_m.names)) (rd_v rfl (v_loadI ty22 rfl) (rvm rfl rfl (asd_inv h fun q803 h => rd_v rfl (v_sl (l := a_m.names) rfl (fun _ _ h => h) sl22 (.inl ⟨rfl, rfl⟩) (.inr ⟨_, rfl, rfl⟩) q803.1 q803.2.1 q803.2.2) ?_)))
  refine rd_v rfl (v_fi rfl GMod.f2 fd73_2 rfl (z := a_m.names)) (rd_v rfl (v_loadI ty22 rfl) (rvm rfl rfl (cal_inv h fun y804 hy804 h => rd_v rfl (v_ix (l := a_m.names) rfl (fun _ _ h => h) rfl sl22 hy804) ?_)))
  refine rd_v rfl (v_loadI ty9 rfl) (cal_inv h fun y805 hy805 h => rd_t rfl rfl (t_call (h_In_string_w hy805) hT (.same rfl (.same rfl .nil)) .nil (fun R H' hR => ?_)))
  obtain ⟨rfl, rfl⟩ := hR
  refine rd_nil (fin_nxt (w_condM h rfl (fun _ h => ?_) (fun _ h => ?_)))
  ·
   refine wsr (oM rfl (oA rfl (oA rfl (oA rfl ?_))))
   refine rnf (w_ret (ret_block (ret_nxt (rL2 _ ?_))))
   refine ret_block (ret_nxt (ret_post (.as rfl (nilv_isv (α := Int)) (.tmp rfl (.tmp rfl .nil))) .nil ?_))
   obtain rfl := Option.some.inj h
   exact ⟨rfl, rfl⟩
  ·
   refine w_skip (fin_block (fin_nxt (w_region (oM rfl ?_))))
   exact ck_inv h fun q806 h => oV (v_add rfl rfl q806) (oA rfl (rl_nil (hL2 _ () h _ (ji 19 7 rfl rfl rfl))))
 ·
  refine w_exit (exi_nxt (eL2 _ _ (exi_block (fin_nxt ?_))))
  refine w_seq (wsr (oA rfl (rnf (w_block ?_))))
  refine w_upd (upd_tok) (w_lp (ι := (List (List Int)) × Int × Int) (γ := Tok) (fun q807 g807 => [(5, appv g807 (q807.1)), (6, isv (q807.2.1)), (8, isv (q807.2.2))]) (fun q807 g807 => [tokE g807]) h (none) (mod_cons (j := 5) rfl nilv_appv (mod_cons (j := 6) rfl (fun _ _ h => h) (mod_cons (j := 8) rfl (fun _ _ h => h) mod_nil))) (.cons .here .nil) (fun L808 q807 g807 Q1602 h hL808 eL808 rL808 => w_seq (wsr (oM rfl ?_))))
  refine oV (v_fi rfl GMod.f2 fd73_2 rfl (z := a_m.names)) (oV (v_loadI ty22 rfl) (oV (v_ln (l := a_m.names) rfl (fun _ _ h => h) sl22) (oV (v_lss rfl rfl) (rnf ?_))))
  refine w_condM h rfl (fun _ h => ?_) (fun _ h => ?_)
  ·
   refine wkf (w_seq (w_J (ι := (List (List Int)) × Int) (γ := Tok) (fun q1337 g1337 => [(5, appv g1337 (q1337.1)), (6, isv (q1337.2))]) (fun q1337 g1337 => [tokE g1337]) (.cons .here .nil) h (fun q1337 g1337 h => ?_) (fun J1338 h hJ1338 => ?_)))
   ·
    refine w_region (oM rfl (ck_inv h fun q1349 h => oV (v_add rfl rfl q1349) (oA rfl ?_)))
    exact rl_nil (hL808 _ (g1337) h _ (join_imp 13 rfl rfl (mod_cons (j := 5) rfl (fun _ _ h => h) (mod_cons (j := 6) rfl (fun _ _ h => h) (mod_cons (j := 8) rfl (fun _ _ h => h) mod_nil))) (.cons .here .nil)))
   ·
    refine w_block (w_seq (w_regionD (.v 0 (.v 1 (.v 2 (.v 3 (.v 4 (.v 5 (.t 6 (.v 7 (.v 8 (.v 9 (.v 10 (.v 11 .nil)))))))))))) moOrd (by kernel_rfl) ?_))
    refine rd_v rfl (v_loadI ty73 rfl) (rd_v rfl (v_fi rfl GMod.f3 fd73_3 rfl (z := a_m.types)) (rd_v rfl (v_loadI ty23 rfl) (rvm rfl rfl (cal_inv h fun y1339 hy1339 h => ?_))))
    refine rd_v rfl (v_ix (l := a_m.types) rfl (fun _ _ h => h) rfl sl23 hy1339) (rd_v rfl (v_loadI ty3 rfl) (rd_upd (upd_tok) (cal_inv h fun y1341 hy1341 h => rd_t rfl rfl (t_call (r07_uses_w fuel hy1341) hT (.same rfl (.same rfl (.same rfl (.cons rfl nilv_appv .nil)))) (.cons .here .nil) (fun R H' hR => ?_)))))
    obtain ⟨t1342, rfl, rfl⟩ := hR
    refine rvm rfl rfl (rd_v rfl (v_extract rfl rfl) (rd_v rfl (v_extract rfl rfl) (rd_v rfl (v_assign rfl) (rd_v rfl (v_assign rfl) ?_))))
    refine rd_nil (fin_nxt (wsr (oM rfl (oM rfl ?_))))
    refine oT (t_buildSlice (l := ([y1341.1] : (List (List Int)))) el36 (.cons rfl appv_isv .nil) rfl rfl (asr_inv h fun q1345 h => oT (t_appC (l := q807.1) (m := ([y1341.1] : (List (List Int)))) ap36_36 rfl (fun _ _ h => h) rfl appv_isv (.there .here) q1345 fun t1344 => oA rfl (rnf ?_))))
    refine wsr (oM rfl (oM rfl (rl_j (jb 59) je .nil h 3 rfl (fun q1346 g1346 h => ?_) (fun J1347 h hJ1347 => ?_))))
    ·
     refine rnf (w_condM h rfl (fun _ h => ?_) (fun _ h => ?_))
     ·
      refine w_region (oM rfl (oA rfl (rl_nil (fin_block ?_))))
      exact hJ1338 _ (t1344) h _ (join_imp 22 rfl rfl (mod_cons (j := 5) rfl (fun _ _ h => h) (mod_cons (j := 6) rfl (fun _ _ h => h) mod_nil)) (.cons .here .nil))
     ·
      exact w_skip (fin_block (hJ1338 _ (t1344) h _ (join_imp 20 rfl rfl (mod_cons (j := 5) rfl (fun _ _ h => h) (mod_cons (j := 6) rfl (fun _ _ h => h) mod_nil)) (.cons .here .nil))))
    ·
     refine rl_condM (j := 56) h rfl (fun g1348 h => ?_) (fun g1348 h => ?_)
     ·
      exact oK 56 rfl rfl rfl g1348 (v_move rfl) (oK 56 rfl rfl rfl g1348 (v_lss rfl rfl) (oV (v_pick_t rfl g1348 rfl) (hJ1347 _ () h _ (join_imp 3 rfl rfl (mod_cons (j := 59) rfl (fun _ _ h => h) mod_nil) (.cons .here (.cons .here .nil))))))
     ·
      exact oP 56 rfl rfl g1348 (oP 56 rfl rfl g1348 (oV (v_pick_f rfl g1348 rfl) (hJ1347 _ () h _ (join_imp 3 rfl rfl (mod_cons (j := 59) rfl (fun _ _ h => h) mod_nil) (.cons .here (.cons .here .nil))))))
  ·
   refine w_exit (exi_nxt (eL808 _ _ (exi_block (fin_nxt ?_))))
   refine w_seq (wsr (oM rfl (oV (v_geq rfl rfl) (rnf ?_))))
   refine w_condM h rfl (fun _ h => ?_) (fun _ h => ?_)
   ·
    refine wsr (oM rfl (oA rfl (oA rfl (oA rfl ?_))))
    refine rnf (w_ret (ret_nxt (ret_post (.as rfl (nilv_isv (α := Int)) (.tmp rfl (.tmp rfl .nil))) .nil ?_)))
    obtain rfl := Option.some.inj h
    exact ⟨rfl, rfl⟩
   ·
    refine wkf (w_seq (wsr (oA rfl (rnf ?_))))
    refine w_block (w_lp (ι := Int) (γ := Unit) (fun q1350 g1350 => [(11, isv (q1350))]) (fun q1350 g1350 => []) h () (mod_cons (j := 11) rfl (fun _ _ h => h) mod_nil) .nil (fun L1351 q1350 g1350 Q1600 h hL1351 eL1351 rL1351 => w_seq (wsr (oM rfl ?_))))
    refine oV (v_fi rfl GMod.f2 fd73_2 rfl (z := a_m.names)) (oV (v_loadI ty22 rfl) (oV (v_ln (l := a_m.names) rfl (fun _ _ h => h) sl22) (oV (v_lss rfl rfl) (rnf ?_))))
    refine w_condM h rfl (fun _ h => ?_) (fun _ h => ?_)
    ·
     refine wkf (w_seq (w_block (wsr (oM rfl ?_))))
     refine oM rfl (oM rfl (cal_inv h fun y1476 hy1476 h => oT (t_call (r07_reach_w hy1476) hT (.cons rfl appv_isv (.same rfl (.same rfl .nil))) .nil (fun R H' hR => ?_))))
     obtain ⟨rfl, rfl⟩ := hR
     refine rnf (w_condM h rfl (fun _ h => ?_) (fun _ h => ?_))
     ·
      refine wsr (oM rfl (oA rfl (oA rfl (oA rfl ?_))))
      refine rnf (w_ret (ret_block (ret_nxt (rL1351 _ ?_))))
      refine ret_block (ret_nxt (ret_post (.as rfl (nilv_isv (α := Int)) (.tmp rfl (.tmp rfl .nil))) .nil ?_))
      obtain rfl := Option.some.inj h
      exact ⟨rfl, rfl⟩
     ·
      refine w_skip (fin_block (fin_nxt (w_region (oM rfl ?_))))
      exact ck_inv h fun q1477 h => oV (v_add rfl rfl q1477) (oA rfl (rl_nil (hL1351 _ () h _ (join_imp 13 rfl rfl (mod_cons (j := 11) rfl (fun _ _ h => h) mod_nil) (.cons .here .nil)))))
    ·
     refine w_exit (exi_nxt (eL1351 _ _ (exi_block (fin_nxt ?_))))
     refine wsr (oA rfl (rnf (w_seq (w_block ?_))))
     refine w_upd (upd_tok) (w_lp (ι := (List Int)) (γ := Tok) (fun q1478 g1478 => [(12, appv g1478 (q1478))]) (fun q1478 g1478 => [tokE g1478]) h (none) (mod_cons (j := 12) rfl nilv_appv mod_nil) (.cons .here .nil) (fun L1479 q1478 g1478 Q1599 h hL1479 eL1479 rL1479 => w_seq (wsr (oM rfl ?_))))
     refine oV (v_ln (l := q1478) rfl appv_isv sl23) (oV (v_fi rfl GMod.f2 fd73_2 rfl (z := a_m.names)) (oV (v_loadI ty22 rfl) (oV (v_ln (l := a_m.names) rfl (fun _ _ h => h) sl22) (oV (v_lss rfl rfl) ?_))))
     refine rnf (w_condM h rfl (fun _ h => ?_) (fun _ h => ?_))
     ·
      refine wkf (w_block (wsr (oA rfl (rnf ?_))))
      refine w_block (w_lp (ι := Int) (γ := Unit) (fun q1539 g1539 => [(13, isv (q1539))]) (fun q1539 g1539 => []) h () (mod_cons (j := 13) rfl (fun _ _ h => h) mod_nil) .nil (fun L1540 q1539 g1539 Q1597 h hL1540 eL1540 rL1540 => w_seq (wsr (oM rfl ?_))))
      refine oV (v_fi rfl GMod.f2 fd73_2 rfl (z := a_m.names)) (oV (v_loadI ty22 rfl) (oV (v_ln (l := a_m.names) rfl (fun _ _ h => h) sl22) (oV (v_lss rfl rfl) (rnf ?_))))
      refine w_condM h rfl (fun _ h => ?_) (fun _ h => ?_)
      ·
       refine wkf (w_seq (w_block (wsr (oM rfl ?_))))
       refine oM rfl (cal_inv h fun y1569 hy1569 h => oT (t_call (h_In_int_w hy1569) hT (.cons rfl appv_isv (.same rfl .nil)) .nil (fun R H' hR => ?_)))
       obtain ⟨rfl, rfl⟩ := hR
       refine oV (v_not rfl) (oA rfl (rnf (w_seq (wsr ?_))))
       refine oA rfl (rnf (w_block (w_lp (ι := Bool × Int) (γ := Unit) (fun q1570 g1570 => [(14, isv (q1570.1)), (15, isv (q1570.2))]) (fun q1570 g1570 => []) h () (mod_cons (j := 14) rfl (fun _ _ h => h) (mod_cons (j := 15) rfl (fun _ _ h => h) mod_nil)) .nil (fun L1571 q1570 g1570 Q1596 h hL1571 eL1571 rL1571 => w_seq ?_))))
       refine wsr (oM rfl (oM rfl (oM rfl (cal_inv h fun y1584 hy1584 h => ?_))))
       refine oV (v_ix (l := q807.1) rfl appv_isv rfl sl36 hy1584) (oV (v_loadI ty23 rfl) (oV (v_ln (l := y1584) rfl (fun _ _ h => h) sl23) (oV (v_lss rfl rfl) (rnf ?_))))
       refine w_condM h rfl (fun _ h => ?_) (fun _ h => ?_)
       ·
        refine wkf (w_seq (w_block (w_region (oM rfl ?_))))
        refine oM rfl (rl_j (jb 113) je .nil h 10 rfl (fun q1585 g1585 h => ?_) (fun J1586 h hJ1586 => ?_))
        ·
         refine oA rfl (rl_nil (fin_block (fin_nxt (w_region ?_))))
         refine oM rfl (ck_inv h fun q1591 h => oV (v_add rfl rfl q1591) (oA rfl (rl_nil ?_)))
         exact hL1571 _ () h _ (join_imp 16 rfl rfl (mod_cons (j := 14) rfl (fun _ _ h => h) (mod_cons (j := 15) rfl (fun _ _ h => h) mod_nil)) (.cons .here (.cons .here .nil)))
        ·
         refine rl_condM (j := 103) h rfl (fun g1587 h => ?_) (fun g1587 h => ?_)
         ·
          refine oK 103 rfl rfl rfl g1587 (v_move rfl) (oK 103 rfl rfl rfl g1587 (v_move rfl) (oK 103 rfl rfl rfl g1587 (v_move rfl) (cal_inv h fun y1588 hy1588 h => oK 103 rfl rfl rfl g1587 (v_ix (l := q807.1) rfl appv_isv rfl sl36 hy1588) ?_)))
          refine oK 103 rfl rfl rfl g1587 (v_loadI ty23 rfl) (oK 103 rfl rfl rfl g1587 (v_move rfl) (cal_inv h fun y1589 hy1589 h => oK 103 rfl rfl rfl g1587 (v_ix (l := y1588) rfl (fun _ _ h => h) rfl sl23 hy1589) (oK 103 rfl rfl rfl g1587 (v_loadI ty3 rfl) ?_)))
          refine cal_inv h fun y1590 hy1590 h => op_take rfl rfl (dj := 103) rfl g1587 (t_call (h_In_int_w hy1590) hT (.cons rfl appv_isv (.same rfl .nil)) .nil (fun R H' hR => ?_))
          obtain ⟨rfl, rfl⟩ := hR
          exact oV (v_pick_t rfl g1587 rfl) (hJ1586 _ () h _ (join_imp 10 rfl rfl (mod_cons (j := 113) rfl (fun _ _ h => h) mod_nil) (.cons .here (.cons .here .nil))))
         ·
          refine oP 103 rfl rfl g1587 (oP 103 rfl rfl g1587 (oP 103 rfl rfl g1587 (oP 103 rfl rfl g1587 (oP 103 rfl rfl g1587 ?_))))
          refine oP 103 rfl rfl g1587 (oP 103 rfl rfl g1587 (oP 103 rfl rfl g1587 (oP 103 rfl rfl g1587 (oV (v_pick_f rfl g1587 rfl) ?_))))
          exact hJ1586 _ () h _ (join_imp 10 rfl rfl (mod_cons (j := 113) rfl (fun _ _ h => h) mod_nil) (.cons .here (.cons .here .nil)))
       ·
        refine w_exit (exi_nxt (eL1571 _ _ (exi_block (fin_nxt ?_))))
        refine wsr (oM rfl (rnf (w_condM h rfl (fun _ h => ?_) (fun _ h => ?_))))
        ·
         refine wsr (oM rfl (oM rfl (oT (t_buildSlice (l := ([q1539] : (List Int))) el23 (.cons rfl (fun _ _ h => h) .nil) rfl rfl (asr_inv h fun q1594 h => ?_)))))
         refine oT (t_appC (l := q1478) (m := ([q1539] : (List Int))) ap23_23 rfl (fun _ _ h => h) rfl appv_isv .here q1594 fun t1593 => oA rfl (rnf (w_exit (exi_pass rfl ?_))))
         exact exi_nxt (eL1540 _ _ (exi_block (fin_block (hL1479 _ (t1593) h _ (join_imp 35 rfl rfl (mod_cons (j := 12) rfl (fun _ _ h => h) mod_nil) (.cons .here (.cons .here .nil)))))))
        ·
         refine w_skip (fin_block (fin_nxt (w_region (oM rfl ?_))))
         exact ck_inv h fun q1595 h => oV (v_add rfl rfl q1595) (oA rfl (rl_nil (hL1540 _ () h _ (join_imp 25 rfl rfl (mod_cons (j := 13) rfl (fun _ _ h => h) mod_nil) (.cons .here (.cons .here .nil))))))
      ·
       refine w_exit (exi_nxt (eL1540 _ _ (exi_block (fin_block ?_))))
       exact hL1479 _ (g1478) h _ (join_imp 14 rfl rfl (mod_cons (j := 12) rfl (fun _ _ h => h) mod_nil) (.cons .here (.cons .here .nil)))
     ·
      refine w_exit (exi_nxt (eL1479 _ _ (exi_block (fin_nxt ?_))))
      refine wsr (oM rfl (oA rfl (oA rfl (oA rfl ?_))))
      refine rnf (w_ret (ret_post (.as rfl appv_isv (.tmp rfl (.tmp rfl .nil))) .nil ?_))
      obtain rfl := Option.some.inj h
      exact ⟨rfl, rfl⟩

end Go.Proofs.YtnnijoepfgnlfaaGreatDoor


namespace Go.Proofs.YtnnijoepfgnlfaaGreatDoor
open Go.Sy
set_option maxRecDepth 4000
theorem r10_maker_fail_w : ∀ {a_x : GMk} {a_e : Int} {b_a_x : Nat} {v_a_x1 : Vt} {r : GMk}, r10_maker_fail a_x a_e = some r → Ctr Tryz.prog 150 [ptrv b_a_x (Fld.id (GMod × Vh × Int)), isv (a_e)] [boxE b_a_x ((a_x.m, (Vh.mk v_a_x1 a_x.l.length), a_x.e) : (GMod × Vh × Int)), vecE v_a_x1 (a_x.l : List GTyp)] (fun R H => R = oneOf [] ∧ H = [boxE b_a_x ((r.m, (Vh.mk v_a_x1 r.l.length), r.e)), vecE v_a_x1 (r.l)]) := by
 intro a_x a_e b_a_x v_a_x1 r h
 unfold r10_maker_fail at h
 refine spec_intro Tryz.func150 rfl (by decide +kernel) (by rfl) fun w0 S0 hT => ?_
 refine wsr (oM rfl (oV (v_nilCheck rfl) (oV (v_fa rfl pt141_0_2 fd141_2) (oT (t_loadC (R := isv (a_x.e)) ty65 rfl .here (fun _ _ h => h) ?_)))))
 refine oV (v_eql rfl rfl) (rnf (w_condM h rfl (fun _ h => ?_) (fun _ h => ?_)))
 ·
  refine w_region (oM rfl (oM rfl (oV (v_nilCheck rfl) (oV (v_fa rfl pt141_0_2 fd141_2) ?_))))
  refine oT (t_storeC (y' := ((a_x.m, (Vh.mk v_a_x1 a_x.l.length), a_e) : (GMod × Vh × Int))) ty65 rfl rfl (fun _ _ h => h) .here rfl (rl_nil (fin_post .nil (.cons .here (.cons .here .nil)) ?_)))
  obtain rfl := Option.some.inj h
  exact ⟨rfl, rfl⟩
 ·
  refine w_skip (fin_post .nil (.cons .here (.cons .here .nil)) ?_)
  obtain rfl := Option.some.inj h
  exact ⟨rfl, rfl⟩


theorem r09_Universal_w : ∀ {a_kind : Int} {r : Tag}, r09_Universal a_kind = some r → Ctr Tryz.prog 151 [isv (a_kind)] [] (fun R H => R = oneOf [isv (r)] ∧ H = []) := by
 intro a_kind r h
 unfold r09_Universal at h
 refine spec_intro Tryz.func151 rfl (by decide +kernel) (by rfl) fun w0 S0 hT => ?_
 refine wsr (oT (t_alloc _ ze31 fun b1 => rnf (w_seq (wsr ?_))))
 refine oM rfl (rnf (w_block (wsr (oV (v_eql rfl rfl) ?_))))
 refine oA rfl (rnf (w_condM h rfl (fun _ h => ?_) (fun _ h => ?_)))
 ·
  refine wsr (oV (v_build (z := (Tag.mk (0 : Int) (1 : Int))) rfl bu31 ze31 (.cons Tag.f1 fd31_1 rfl (fun _ _ h => h) .nil)) (oT (t_storeC (y' := ((Tag.mk (0 : Int) (1 : Int)) : Tag)) ty31 rfl rfl (fun _ _ h => h) .here rfl (rnf (w_ret ?_)))))
  refine ret_block (ret_nxt (ret_post (.cell rfl .here ty31 .nil) .nil ?_))
  obtain rfl := Option.some.inj h
  exact ⟨rfl, rfl⟩
 ·
  refine wsr (oV (v_eql rfl rfl) (oA rfl (rnf (w_condM h rfl (fun _ h => ?_) (fun _ h => ?_)))))
  ·
   refine wsr (oV (v_build (z := (Tag.mk (0 : Int) (2 : Int))) rfl bu31 ze31 (.cons Tag.f1 fd31_1 rfl (fun _ _ h => h) .nil)) (oT (t_storeC (y' := ((Tag.mk (0 : Int) (2 : Int)) : Tag)) ty31 rfl rfl (fun _ _ h => h) .here rfl (rnf (w_ret ?_)))))
   refine ret_block (ret_nxt (ret_post (.cell rfl .here ty31 .nil) .nil ?_))
   obtain rfl := Option.some.inj h
   exact ⟨rfl, rfl⟩
  ·
   refine wsr (oV (v_eql rfl rfl) (oA rfl (rnf (w_condM h rfl (fun _ h => ?_) (fun _ h => ?_)))))
   ·
    refine wsr (oV (v_build (z := (Tag.mk (0 : Int) (4 : Int))) rfl bu31 ze31 (.cons Tag.f1 fd31_1 rfl (fun _ _ h => h) .nil)) (oT (t_storeC (y' := ((Tag.mk (0 : Int) (4 : Int)) : Tag)) ty31 rfl rfl (fun _ _ h => h) .here rfl (rnf (w_ret ?_)))))
    refine ret_block (ret_nxt (ret_post (.cell rfl .here ty31 .nil) .nil ?_))
    obtain rfl := Option.some.inj h
    exact ⟨rfl, rfl⟩
   ·
    refine wsr (oV (v_eql rfl rfl) (oA rfl (rnf (w_condM h rfl (fun _ h => ?_) (fun _ h => ?_)))))
    ·
     refine wsr (oV (v_build (z := (Tag.mk (0 : Int) (5 : Int))) rfl bu31 ze31 (.cons Tag.f1 fd31_1 rfl (fun _ _ h => h) .nil)) (oT (t_storeC (y' := ((Tag.mk (0 : Int) (5 : Int)) : Tag)) ty31 rfl rfl (fun _ _ h => h) .here rfl (rnf (w_ret ?_)))))
     refine ret_block (ret_nxt (ret_post (.cell rfl .here ty31 .nil) .nil ?_))
     obtain rfl := Option.some.inj h
     exact ⟨rfl, rfl⟩
    ·
     refine wsr (oV (v_eql rfl rfl) (oA rfl (rnf (w_condM h rfl (fun _ h => ?_) (fun _ h => ?_)))))
     ·
      refine wsr (oV (v_build (z := (Tag.mk (0 : Int) (10 : Int))) rfl bu31 ze31 (.cons Tag.f1 fd31_1 rfl (fun _ _ h => h) .nil)) (oT (t_storeC (y' := ((Tag.mk (0 : Int) (10 : Int)) : Tag)) ty31 rfl rfl (fun _ _ h => h) .here rfl (rnf (w_ret ?_)))))
      refine ret_block (ret_nxt (ret_post (.cell rfl .here ty31 .nil) .nil ?_))
      obtain rfl := Option.some.inj h
      exact ⟨rfl, rfl⟩
     ·
      refine wsr (oV (v_eql rfl rfl) (oA rfl (rnf (w_condM h rfl (fun _ h => ?_) (fun _ h => ?_)))))
      ·
       refine wsr (oV (v_build (z := (Tag.mk (0 : Int) (12 : Int))) rfl bu31 ze31 (.cons Tag.f1 fd31_1 rfl (fun _ _ h => h) .nil)) (oT (t_storeC (y' := ((Tag.mk (0 : Int) (12 : Int)) : Tag)) ty31 rfl rfl (fun _ _ h => h) .here rfl (rnf (w_ret ?_)))))
       refine ret_block (ret_nxt (ret_post (.cell rfl .here ty31 .nil) .nil ?_))
       obtain rfl := Option.some.inj h
       exact ⟨rfl, rfl⟩
      ·
       refine w_seq (wsr (oV (v_eql rfl rfl) (oA rfl (rnf ?_))))
       refine w_J (jb 22) je .nil h (fun q2 g2 h => ?_) (fun J3 h hJ3 => ?_)
       ·
        refine w_condM h rfl (fun _ h => ?_) (fun _ h => ?_)
        ·
         refine wsr (oV (v_build (z := (Tag.mk (0 : Int) (16 : Int))) rfl bu31 ze31 (.cons Tag.f1 fd31_1 rfl (fun _ _ h => h) .nil)) (oT (t_storeC (y' := ((Tag.mk (0 : Int) (16 : Int)) : Tag)) ty31 rfl rfl (fun _ _ h => h) .here rfl (rnf (w_ret ?_)))))
         refine ret_block (ret_nxt (ret_post (.cell rfl .here ty31 .nil) .nil ?_))
         obtain rfl := Option.some.inj h
         exact ⟨rfl, rfl⟩
        ·
         refine wsr (oV (v_eql rfl rfl) (oA rfl (rnf (w_condM h rfl (fun _ h => ?_) (fun _ h => ?_)))))
         ·
          refine wsr (oV (v_build (z := (Tag.mk (0 : Int) (17 : Int))) rfl bu31 ze31 (.cons Tag.f1 fd31_1 rfl (fun _ _ h => h) .nil)) (oT (t_storeC (y' := ((Tag.mk (0 : Int) (17 : Int)) : Tag)) ty31 rfl rfl (fun _ _ h => h) .here rfl (rnf (w_ret ?_)))))
          refine ret_block (ret_nxt (ret_post (.cell rfl .here ty31 .nil) .nil ?_))
          obtain rfl := Option.some.inj h
          exact ⟨rfl, rfl⟩
         ·
          refine w_skip (fin_block (fin_nxt (wsr (oV (v_build (z := (Tag.mk (0 : Int) (0 : Int))) rfl bu31 ze31 .nil) ?_))))
          refine oT (t_storeC (y' := ((Tag.mk (0 : Int) (0 : Int)) : Tag)) ty31 rfl rfl (fun _ _ h => h) .here rfl (rnf (w_ret (ret_post (.cell rfl .here ty31 .nil) .nil ?_))))
          obtain rfl := Option.some.inj h
          exact ⟨rfl, rfl⟩
       ·
        refine w_condM h rfl (fun _ h => ?_) (fun _ h => ?_)
        ·
         exact w_skip (hJ3 _ () h _ (join_imp 0 rfl rfl (mod_cons (j := 22) rfl (fun _ _ h => h) mod_nil) (.cons .here .nil)))
        ·
         exact w_region (oV (v_eql rfl rfl) (oA rfl (rl_nil (hJ3 _ () h _ (join_imp 2 rfl rfl (mod_cons (j := 22) rfl (fun _ _ h => h) mod_nil) (.cons .here .nil))))))


theorem r08_Check_w : ∀ {a_c : GCon} {a_size : Bool} {r : Int}, r08_Check a_c a_size = some r → Ctr Tryz.prog 152 [isv (a_c), isv (a_size)] [] (fun R H => R = oneOf [isv (r)] ∧ H = []) := by
 intro a_c a_size r h
 unfold r08_Check at h
 refine spec_intro Tryz.func152 rfl (by decide +kernel) (by rfl) fun w0 S0 hT => ?_
 refine wsr (oT (t_boxIC (y := a_c) rfl (fun _ _ h => h) (oA rfl (rnf (w_seq ?_)))))
 refine wsr (oV (v_fi rfl GCon.f0 fd83_0 rfl (z := a_c.has)) (oV (v_loadI ty4 rfl) (oV (v_not rfl) (rnf ?_))))
 refine w_condM h rfl (fun _ h => ?_) (fun _ h => ?_)
 ·
  refine wsr (oA rfl (rnf (w_ret (ret_nxt ?_))))
  refine ret_post (.tmp rfl .nil) .nil ?_
  obtain rfl := Option.some.inj h
  exact ⟨rfl, rfl⟩
 ·
  refine wkf (w_seq (wsr (oV (v_fi rfl GCon.f1 fd83_1 rfl (z := a_c.hasLow)) (oV (v_loadI ty4 rfl) ?_))))
  refine oM rfl (rl_j (jb 13) je .nil h 3 rfl (fun q1 g1 h => ?_) (fun J2 h hJ2 => ?_))
  ·
   refine oM rfl (rl_j (jb 20) je .nil h 6 rfl (fun q4 g4 h => ?_) (fun J5 h hJ5 => ?_))
   ·
    refine rnf (w_condM h rfl (fun _ h => ?_) (fun _ h => ?_))
    ·
     refine wsr (oA rfl (rnf (w_ret (ret_nxt ?_))))
     refine ret_post (.tmp rfl .nil) .nil ?_
     obtain rfl := Option.some.inj h
     exact ⟨rfl, rfl⟩
    ·
     refine wkf (w_seq (wsr (oM rfl (oM rfl ?_))))
     refine rl_j (jb 50) je .nil h 28 rfl (fun q7 g7 h => ?_) (fun J8 h hJ8 => ?_)
     ·
      refine rnf (w_condM h rfl (fun _ h => ?_) (fun _ h => ?_))
      ·
       refine wsr (oA rfl (rnf (w_ret (ret_nxt ?_))))
       refine ret_post (.tmp rfl .nil) .nil ?_
       obtain rfl := Option.some.inj h
       exact ⟨rfl, rfl⟩
      ·
       refine wkf (wsr (oA rfl (rnf (w_ret ?_))))
       refine ret_post (.tmp rfl .nil) .nil ?_
       obtain rfl := Option.some.inj h
       exact ⟨rfl, rfl⟩
     ·
      refine rl_condM (j := 22) h rfl (fun g9 h => ?_) (fun g9 h => ?_)
      ·
       refine oK 22 rfl rfl rfl g9 (v_fi rfl GCon.f1 fd83_1 rfl (z := a_c.hasLow)) (oK 22 rfl rfl rfl g9 (v_loadI ty4 rfl) (oK 22 rfl rfl rfl g9 (v_not rfl) (oK 22 rfl rfl rfl g9 (v_move rfl) (rl_j (jb 30) je .nil h 4 rfl (fun q10 g10 h => ?_) (fun J11 h hJ11 => ?_)))))
       ·
        refine oK 22 rfl rfl rfl g9 (v_move rfl) (rl_j (jb 35) je .nil h 4 rfl (fun q13 g13 h => ?_) (fun J14 h hJ14 => ?_))
        ·
         refine oK 22 rfl rfl rfl g9 (v_move rfl) (rl_j (jb 49) je .nil h 13 rfl (fun q16 g16 h => ?_) (fun J17 h hJ17 => ?_))
         ·
          exact oV (v_pick_t rfl g9 rfl) (hJ8 _ () h _ (ji 10 50 rfl rfl rfl))
         ·
          refine rl_condM (j := 36) h rfl (fun g18 h => ?_) (fun g18 h => ?_)
          ·
           refine oP 36 rfl rfl g18 (oP 36 rfl rfl g18 (oP 36 rfl rfl g18 (op_passU rfl (dj := 39) rfl (op_passU rfl (dj := 39) rfl ?_))))
           refine op_passU rfl (dj := 39) rfl (op_passU rfl (dj := 39) rfl (op_passU rfl (dj := 43) rfl (op_passU rfl (dj := 43) rfl (op_passU rfl (dj := 43) rfl ?_))))
           exact op_passU rfl (dj := 39) rfl (oP 36 rfl rfl g18 (oK 22 rfl rfl rfl g9 (v_pick_t rfl g18 rfl) (hJ17 _ () h _ (ji 13 49 rfl rfl rfl))))
          ·
           refine oK 36 rfl rfl rfl g18 (v_fi rfl GCon.f2 fd83_2 rfl (z := a_c.hasHigh)) (oK 36 rfl rfl rfl g18 (v_loadI ty4 rfl) (oK 36 rfl rfl rfl g18 (v_move rfl) (rl_j (jb 48) je .nil h 9 rfl (fun q19 g19 h => ?_) (fun J20 h hJ20 => ?_))))
           ·
            exact oK 22 rfl rfl rfl g9 (v_pick_f rfl g18 rfl) (hJ17 _ () h _ (ji 5 49 rfl rfl rfl))
           ·
            refine rl_condM (j := 39) h rfl (fun g21 h => ?_) (fun g21 h => ?_)
            ·
             refine oK 39 rfl rfl rfl g21 (v_fi rfl GCon.f5 fd83_5 rfl (z := a_c.high)) (oK 39 rfl rfl rfl g21 (v_loadI ty2 rfl) (oK 39 rfl rfl rfl g21 (v_lss rfl rfl) (oK 39 rfl rfl rfl g21 (v_move rfl) (rl_j (jb 47) je .nil h 4 rfl (fun q22 g22 h => ?_) (fun J23 h hJ23 => ?_)))))
             ·
              exact oK 36 rfl rfl rfl g18 (v_pick_t rfl g21 rfl) (hJ20 _ () h _ (ji 6 48 rfl rfl rfl))
             ·
              refine rl_condM (j := 43) h rfl (fun g24 h => ?_) (fun g24 h => ?_)
              ·
               exact oP 43 rfl rfl g24 (oP 43 rfl rfl g24 (oP 43 rfl rfl g24 (oK 39 rfl rfl rfl g21 (v_pick_t rfl g24 rfl) (hJ23 _ () h _ (ji 4 47 rfl rfl rfl)))))
              ·
               exact oK 43 rfl rfl rfl g24 (v_fi rfl GCon.f5 fd83_5 rfl (z := a_c.high)) (oK 43 rfl rfl rfl g24 (v_loadI ty2 rfl) (oK 43 rfl rfl rfl g24 (v_gtr rfl rfl) (oK 39 rfl rfl rfl g21 (v_pick_f rfl g24 rfl) (hJ23 _ () h _ (ji 4 47 rfl rfl rfl)))))
            ·
             refine oP 39 rfl rfl g21 (oP 39 rfl rfl g21 (oP 39 rfl rfl g21 (oP 39 rfl rfl g21 (op_passU rfl (dj := 43) rfl ?_))))
             exact op_passU rfl (dj := 43) rfl (op_passU rfl (dj := 43) rfl (oP 39 rfl rfl g21 (oK 36 rfl rfl rfl g18 (v_pick_f rfl g21 rfl) (hJ20 _ () h _ (ji 9 48 rfl rfl rfl)))))
        ·
         refine rl_condM (j := 31) h rfl (fun g15 h => ?_) (fun g15 h => ?_)
         ·
          exact oP 31 rfl rfl g15 (oP 31 rfl rfl g15 (oP 31 rfl rfl g15 (oK 22 rfl rfl rfl g9 (v_pick_t rfl g15 rfl) (hJ14 _ () h _ (ji 4 35 rfl rfl rfl)))))
         ·
          exact oK 31 rfl rfl rfl g15 (v_fi rfl GCon.f4 fd83_4 rfl (z := a_c.low)) (oK 31 rfl rfl rfl g15 (v_loadI ty2 rfl) (oK 31 rfl rfl rfl g15 (v_gtr rfl rfl) (oK 22 rfl rfl rfl g9 (v_pick_f rfl g15 rfl) (hJ14 _ () h _ (ji 4 35 rfl rfl rfl)))))
       ·
        refine rl_condM (j := 26) h rfl (fun g12 h => ?_) (fun g12 h => ?_)
        ·
         exact oP 26 rfl rfl g12 (oP 26 rfl rfl g12 (oP 26 rfl rfl g12 (oK 22 rfl rfl rfl g9 (v_pick_t rfl g12 rfl) (hJ11 _ () h _ (ji 4 30 rfl rfl rfl)))))
        ·
         exact oK 26 rfl rfl rfl g12 (v_fi rfl GCon.f4 fd83_4 rfl (z := a_c.low)) (oK 26 rfl rfl rfl g12 (v_loadI ty2 rfl) (oK 26 rfl rfl rfl g12 (v_lss rfl rfl) (oK 22 rfl rfl rfl g9 (v_pick_f rfl g12 rfl) (hJ11 _ () h _ (ji 4 30 rfl rfl rfl)))))
      ·
       refine oP 22 rfl rfl g9 (oP 22 rfl rfl g9 (oP 22 rfl rfl g9 (oP 22 rfl rfl g9 (op_passU rfl (dj := 26) rfl ?_))))
       refine op_passU rfl (dj := 26) rfl (op_passU rfl (dj := 26) rfl (oP 22 rfl rfl g9 (oP 22 rfl rfl g9 (op_passU rfl (dj := 31) rfl ?_))))
       refine op_passU rfl (dj := 31) rfl (op_passU rfl (dj := 31) rfl (oP 22 rfl rfl g9 (oP 22 rfl rfl g9 (op_passU rfl (dj := 36) rfl ?_))))
       refine op_passU rfl (dj := 36) rfl (op_passU rfl (dj := 36) rfl (op_passU rfl (dj := 39) rfl (op_passU rfl (dj := 39) rfl (op_passU rfl (dj := 39) rfl ?_))))
       refine op_passU rfl (dj := 39) rfl (op_passU rfl (dj := 43) rfl (op_passU rfl (dj := 43) rfl (op_passU rfl (dj := 43) rfl (op_passU rfl (dj := 39) rfl ?_))))
       exact op_passU rfl (dj := 36) rfl (oP 22 rfl rfl g9 (oV (v_pick_f rfl g9 rfl) (hJ8 _ () h _ (ji 28 50 rfl rfl rfl))))
   ·
    refine rl_condM (j := 14) h rfl (fun g6 h => ?_) (fun g6 h => ?_)
    ·
     refine oK 14 rfl rfl rfl g6 (v_fi rfl GCon.f4 fd83_4 rfl (z := a_c.low)) (oK 14 rfl rfl rfl g6 (v_loadI ty2 rfl) (oK 14 rfl rfl rfl g6 (v_fi rfl GCon.f5 fd83_5 rfl (z := a_c.high)) (oK 14 rfl rfl rfl g6 (v_loadI ty2 rfl) (oK 14 rfl rfl rfl g6 (v_gtr rfl rfl) ?_))))
     exact oV (v_pick_t rfl g6 rfl) (hJ5 _ () h _ (ji 6 20 rfl rfl rfl))
    ·
     refine oP 14 rfl rfl g6 (oP 14 rfl rfl g6 (oP 14 rfl rfl g6 (oP 14 rfl rfl g6 (oP 14 rfl rfl g6 ?_))))
     exact oV (v_pick_f rfl g6 rfl) (hJ5 _ () h _ (ji 6 20 rfl rfl rfl))
  ·
   refine rl_condM (j := 10) h rfl (fun g3 h => ?_) (fun g3 h => ?_)
   ·
    exact oK 10 rfl rfl rfl g3 (v_fi rfl GCon.f2 fd83_2 rfl (z := a_c.hasHigh)) (oK 10 rfl rfl rfl g3 (v_loadI ty4 rfl) (oV (v_pick_t rfl g3 rfl) (hJ2 _ () h _ (ji 3 13 rfl rfl rfl))))
   ·
    exact oP 10 rfl rfl g3 (oP 10 rfl rfl g3 (oV (v_pick_f rfl g3 rfl) (hJ2 _ () h _ (ji 3 13 rfl rfl rfl))))


theorem r10_taken_w : ∀ {a_l : (List GItem)} {a_v : Int} {r : Bool}, r10_taken a_l a_v = some r → Ctr Tryz.prog 174 [isv (a_l), isv (a_v)] [] (fun R H => R = oneOf [isv (r)] ∧ H = []) := by
 intro a_l a_v r h
 unfold r10_taken at h
 refine spec_intro Tryz.func174 rfl (by decide +kernel) (by rfl) fun w0 S0 hT => ?_
 refine wsr (oA rfl (rnf (w_seq (wsr ?_))))
 refine oA rfl (rnf (w_block (w_lp (ι := Int) (γ := Unit) (fun q1 g1 => [(5, isv (q1))]) (fun q1 g1 => []) h () (mod_cons (j := 5) rfl (fun _ _ h => h) mod_nil) .nil (fun L2 q1 g1 Q15 h hL2 eL2 rL2 => w_seq ?_))))
 refine wsr (oM rfl (oM rfl (oV (v_ln (l := a_l) rfl (fun _ _ h => h) sl84) (oV (v_lss rfl rfl) ?_))))
 refine rnf (w_condM h rfl (fun _ h => ?_) (fun _ h => ?_))
 ·
  refine wkf (w_seq (w_block (wsr (oM rfl ?_))))
  refine oM rfl (cal_inv h fun y9 hy9 h => oV (v_ix (l := a_l) rfl (fun _ _ h => h) rfl sl84 hy9) (oV (v_fi rfl GItem.f2 fd97_2 rfl (z := y9.has)) (oV (v_loadI ty4 rfl) ?_)))
  refine oM rfl (rl_j (jb 25) je .nil h 8 rfl (fun q10 g10 h => ?_) (fun J11 h hJ11 => ?_))
  ·
   refine rnf (w_condM h rfl (fun _ h => ?_) (fun _ h => ?_))
   ·
    refine wsr (oA rfl (rnf (w_ret (ret_block ?_))))
    refine ret_nxt (rL2 _ (ret_block (ret_nxt (ret_post (.tmp rfl .nil) .nil ?_))))
    obtain rfl := Option.some.inj h
    exact ⟨rfl, rfl⟩
   ·
    refine w_skip (fin_block (fin_nxt (w_region (oM rfl ?_))))
    exact ck_inv h fun q14 h => oV (v_add rfl rfl q14) (oA rfl (rl_nil (hL2 _ () h _ (ji 15 5 rfl rfl rfl))))
  ·
   refine rl_condM (j := 17) h rfl (fun g12 h => ?_) (fun g12 h => ?_)
   ·
    refine oK 17 rfl rfl rfl g12 (v_move rfl) (oK 17 rfl rfl rfl g12 (v_move rfl) (cal_inv h fun y13 hy13 h => oK 17 rfl rfl rfl g12 (v_ix (l := a_l) rfl (fun _ _ h => h) rfl sl84 hy13) (oK 17 rfl rfl rfl g12 (v_fi rfl GItem.f1 fd97_1 rfl (z := y13.number)) ?_)))
    exact oK 17 rfl rfl rfl g12 (v_loadI ty2 rfl) (oK 17 rfl rfl rfl g12 (v_move rfl) (oK 17 rfl rfl rfl g12 (v_eql rfl rfl) (oV (v_pick_t rfl g12 rfl) (hJ11 _ () h _ (ji 8 25 rfl rfl rfl)))))
   ·
    refine oP 17 rfl rfl g12 (oP 17 rfl rfl g12 (oP 17 rfl rfl g12 (oP 17 rfl rfl g12 (oP 17 rfl rfl g12 ?_))))
    exact oP 17 rfl rfl g12 (oP 17 rfl rfl g12 (oV (v_pick_f rfl g12 rfl) (hJ11 _ () h _ (ji 8 25 rfl rfl rfl))))
 ·
  refine w_exit (exi_nxt (eL2 _ _ (exi_block (fin_nxt ?_))))
  refine wsr (oA rfl (rnf (w_ret (ret_post (.tmp rfl .nil) .nil ?_))))
  obtain rfl := Option.some.inj h
  exact ⟨rfl, rfl⟩


theorem r10_maker_items_w : ∀ {a_x : GMk} {a_n_ : GNode} {b_a_x : Nat} {v_a_x1 : Vt} {r : (List GItem) × GMk}, r10_maker_items a_x a_n_ = some r → Ctr Tryz.prog 153 [ptrv b_a_x (Fld.id (GMod × Vh × Int)), isv (a_n_)] [boxE b_a_x ((a_x.m, (Vh.mk v_a_x1 a_x.l.length), a_x.e) : (GMod × Vh × Int)), vecE v_a_x1 (a_x.l : List GTyp)] (fun R H => R = oneOf [isv (r.1)] ∧ H = [boxE b_a_x ((r.2.m, (Vh.mk v_a_x1 r.2.l.length), r.2.e)), vecE v_a_x1 (r.2.l)]) := by
 intro a_x a_n_ b_a_x v_a_x1 r h
 unfold r10_maker_items at h
 refine spec_intro Tryz.func153 rfl (by decide +kernel) (by rfl) fun w0 S0 hT => ?_
 refine wsr (oT (t_boxIC (y := a_n_) rfl (fun _ _ h => h) (oA rfl (rnf (wsr ?_)))))
 refine oA rfl (rnf (wsr (oA rfl (rnf ?_))))
 refine w_seq (wsr (oA rfl (rnf (w_block ?_))))
 refine w_upd (upd_tok) (w_lp (ι := (List GItem) × Int × Int) (γ := Tok) (fun q2 g2 => [(5, appv g2 (q2.1)), (6, isv (q2.2.1)), (7, isv (q2.2.2))]) (fun q2 g2 => [tokE g2]) h (none) (mod_cons (j := 5) rfl nilv_appv (mod_cons (j := 6) rfl (fun _ _ h => h) (mod_cons (j := 7) rfl (fun _ _ h => h) mod_nil))) (.cons .here .nil) (fun L3 q2 g2 Q666 h hL3 eL3 rL3 => w_seq (wsr (oM rfl ?_))))
 refine oV (v_fi rfl GNode.f6 fd167_6 rfl (z := a_n_.root)) (oV (v_loadI ty3 rfl) (oV (v_lss rfl rfl) (rnf (w_condM h rfl (fun _ h => ?_) (fun _ h => ?_)))))
 ·
  refine wkf (w_seq (w_block (wsr (oV (v_fi rfl GNode.f4 fd167_4 rfl (z := a_n_.items)) ?_))))
  refine oV (v_loadI ty84 rfl) (oM rfl (cal_inv h fun y335 hy335 h => oV (v_ix (l := a_n_.items) rfl (fun _ _ h => h) rfl sl84 hy335) (oV (v_loadI ty97 rfl) ?_)))
  refine oT (t_alloc _ ze97 fun b336 => oT (t_storeC (y' := (y335 : GItem)) ty97 rfl rfl (fun _ _ h => h) .here rfl (rnf (w_seq (wsr ?_)))))
  refine oV (v_fa rfl GItem.f2 fd97_2) (oT (t_loadC (R := isv (y335.has)) ty4 rfl .here (fun _ _ h => h) (oV (v_not rfl) (rnf (w_J (ι := Int × GItem) (γ := Unit) (fun q337 g337 => [(6, isv (q337.1))]) (fun q337 g337 => [boxE b336 (q337.2 : GItem)]) (.cons .here .nil) h (fun q337 g337 h => ?_) (fun J338 h hJ338 => ?_))))))
  ·
   refine wsr (oV (v_fa rfl GItem.f2 fd97_2) (oT (t_storeC (y' := ({ q337.2 with has := false } : GItem)) ty4 rfl rfl (fun _ _ h => h) .here rfl (rnf (w_region ?_)))))
   refine oM rfl (oT (t_loadC (R := isv ({ q337.2 with has := false })) ty97 rfl .here (fun _ _ h => h) (oT (t_buildSlice (l := ([{ q337.2 with has := false }] : (List GItem))) el84 (.cons rfl (fun _ _ h => h) .nil) rfl rfl (asr_inv h fun q352 h => oT (t_appC (l := q2.1) (m := ([{ q337.2 with has := false }] : (List GItem))) ap84_84 rfl (fun _ _ h => h) rfl appv_isv (.there .here) q352 fun t351 => ?_))))))
   refine oA rfl (rl_nil (fin_block (fin_nxt (w_region ?_))))
   refine oM rfl (ck_inv h fun q353 h => oV (v_add rfl rfl q353) (oA rfl (rl_nil ?_)))
   exact hL3 _ (t351) h _ (join_imp 26 rfl rfl (mod_cons (j := 5) rfl (fun _ _ h => h) (mod_cons (j := 6) rfl (fun _ _ h => h) (mod_cons (j := 7) rfl (fun _ _ h => h) mod_nil))) (.cons .here (.cons (.there .here) (.cons (.there .here) .nil))))
  ·
   refine w_condM h rfl (fun _ h => ?_) (fun _ h => ?_)
   ·
    refine w_seq (w_block (w_lp (ι := Int) (γ := Unit) (fun q339 g339 => [(6, isv (q339))]) (fun q339 g339 => []) h () (mod_cons (j := 6) rfl (fun _ _ h => h) mod_nil) .nil (fun L340 q339 g339 Q349 h hL340 eL340 rL340 => w_seq (wsr ?_))))
    refine oV (v_fi rfl GNode.f4 fd167_4 rfl (z := a_n_.items)) (oV (v_loadI ty84 rfl) (oV (v_fi rfl GNode.f6 fd167_6 rfl (z := a_n_.root)) (oV (v_loadI ty3 rfl) (asd_inv h fun q345 h => ?_))))
    refine oV (v_sl (l := a_n_.items) rfl (fun _ _ h => h) sl84 (.inl ⟨rfl, rfl⟩) (.inr ⟨_, rfl, rfl⟩) q345.1 q345.2.1 q345.2.2) (oM rfl (cal_inv h fun y346 hy346 h => oT (t_call (r10_taken_w hy346) hT (.same rfl (.same rfl .nil)) .nil (fun R H' hR => ?_))))
    obtain ⟨rfl, rfl⟩ := hR
    refine rnf (w_condM h rfl (fun _ h => ?_) (fun _ h => ?_))
    ·
     refine wkf (w_block (w_region (oM rfl (ck_inv h fun q347 h => ?_))))
     exact oV (v_add rfl rfl q347) (oA rfl (rl_nil (fin_block (hL340 _ () h _ (join_imp 11 rfl rfl (mod_cons (j := 6) rfl (fun _ _ h => h) mod_nil) (.cons .here (.cons .here (.cons .here (.cons .here .nil)))))))))
    ·
     refine w_exit (exi_nxt (eL340 _ _ (exi_block (fin_nxt ?_))))
     refine wsr (oM rfl (oV (v_fa rfl GItem.f1 fd97_1) (oT (t_storeC (y' := ({ y335 with number := q339 } : GItem)) ty2 rfl rfl (fun _ _ h => h) .here rfl (rnf ?_)))))
     refine w_region (oM rfl (ck_inv h fun q348 h => oV (v_add rfl rfl q348) (oA rfl ?_)))
     exact rl_nil (hJ338 _ () h _ (join_imp 13 rfl rfl (mod_cons (j := 6) rfl (fun _ _ h => h) mod_nil) (.cons .here (.cons .here (.cons .here (.cons .here .nil))))))
   ·
    exact w_skip (hJ338 _ () h _ (join_imp 0 rfl rfl (mod_cons (j := 6) rfl (fun _ _ h => h) mod_nil) (.cons .here (.cons .here (.cons .here (.cons .here .nil))))))
 ·
  refine w_exit (exi_nxt (eL3 _ _ (exi_block (fin_nxt ?_))))
  refine wsr (oA rfl (rnf (wsr (oA rfl ?_))))
  refine oA rfl (rnf (w_seq (wsr (oV (v_fi rfl GNode.f6 fd167_6 rfl (z := a_n_.root)) ?_))))
  refine oV (v_loadI ty3 rfl) (oA rfl (rnf (w_block (w_lp (ι := (List GItem) × Int × Bool × Bool × Int) (γ := Tok) (fun q354 g354 => [(5, appv g354 (q354.1)), (9, isv (q354.2.1)), (10, isv (q354.2.2.1)), (11, isv (q354.2.2.2.1)), (12, isv (q354.2.2.2.2))]) (fun q354 g354 => [tokE g354]) h (g2) (mod_cons (j := 5) rfl (fun _ _ h => h) (mod_cons (j := 9) rfl (fun _ _ h => h) (mod_cons (j := 10) rfl (fun _ _ h => h) (mod_cons (j := 11) rfl (fun _ _ h => h) (mod_cons (j := 12) rfl (fun _ _ h => h) mod_nil))))) (.cons .here .nil) (fun L355 q354 g354 Q664 h hL355 eL355 rL355 => ?_)))))
  refine w_seq (wsr (oM rfl (oV (v_fi rfl GNode.f4 fd167_4 rfl (z := a_n_.items)) (oV (v_loadI ty84 rfl) ?_))))
  refine oV (v_ln (l := a_n_.items) rfl (fun _ _ h => h) sl84) (oV (v_lss rfl rfl) (rnf (w_condM h rfl (fun _ h => ?_) (fun _ h => ?_))))
  ·
   refine wkf (w_seq (w_block (wsr (oV (v_fi rfl GNode.f4 fd167_4 rfl (z := a_n_.items)) ?_))))
   refine oV (v_loadI ty84 rfl) (oM rfl (cal_inv h fun y558 hy558 h => oV (v_ix (l := a_n_.items) rfl (fun _ _ h => h) rfl sl84 hy558) (oV (v_loadI ty97 rfl) ?_)))
   refine oT (t_alloc _ ze97 fun b559 => oT (t_storeC (y' := (y558 : GItem)) ty97 rfl rfl (fun _ _ h => h) .here rfl (rnf (w_seq (wsr ?_)))))
   refine oV (v_fa rfl GItem.f2 fd97_2) (oT (t_loadC (R := isv (y558.has)) ty4 rfl .here (fun _ _ h => h) (oV (v_not rfl) (rnf (w_J (ι := GItem) (γ := Unit) (fun q560 g560 => [(13, ptrv b559 (Fld.id GItem))]) (fun q560 g560 => [boxE b559 (q560 : GItem)]) (.cons .here .nil) h (fun q560 g560 h => ?_) (fun J561 h hJ561 => ?_))))))
   ·
    refine wsr (oM rfl (oM rfl (rl_j (jb 109) je .nil h 8 rfl (fun q591 g591 h => ?_) (fun J592 h hJ592 => ?_))))
    ·
     refine oA rfl (rnf (wsr (oV (v_fa rfl GItem.f2 fd97_2) (oT (t_storeC (y' := ({ q560 with has := false } : GItem)) ty4 rfl rfl (fun _ _ h => h) .here rfl ?_)))))
     refine rnf (wsr (oV (v_fa rfl GItem.f1 fd97_1) (oT (t_loadC (R := isv (q560.number)) ty2 rfl .here (fun _ _ h => h) (oA rfl ?_)))))
     refine oA rfl (rnf (w_region (oM rfl (oT (t_loadC (R := isv ({ q560 with has := false })) ty97 rfl .here (fun _ _ h => h) ?_)))))
     refine oT (t_buildSlice (l := ([{ q560 with has := false }] : (List GItem))) el84 (.cons rfl (fun _ _ h => h) .nil) rfl rfl (asr_inv h fun q599 h => oT (t_appC (l := q354.1) (m := ([{ q560 with has := false }] : (List GItem))) ap84_84 rfl (fun _ _ h => h) rfl appv_isv (.there .here) q599 fun t598 => oA rfl (rl_nil ?_))))
     refine fin_block (fin_nxt (w_region (oM rfl (ck_inv h fun q600 h => ?_))))
     exact oV (v_add rfl rfl q600) (oA rfl (rl_nil (hL355 _ (t598) h _ (join_imp 37 rfl rfl (mod_cons (j := 5) rfl (fun _ _ h => h) (mod_cons (j := 9) rfl (fun _ _ h => h) (mod_cons (j := 10) rfl (fun _ _ h => h) (mod_cons (j := 11) rfl (fun _ _ h => h) (mod_cons (j := 12) rfl (fun _ _ h => h) mod_nil))))) (.cons .here (.cons (.there .here) (.cons (.there .here) .nil)))))))
    ·
     refine rl_condM (j := 101) h rfl (fun g593 h => ?_) (fun g593 h => ?_)
     ·
      refine oP 101 rfl rfl g593 (oP 101 rfl rfl g593 (op_passU rfl (dj := 103) rfl (op_passU rfl (dj := 103) rfl (op_passU rfl (dj := 103) rfl ?_))))
      exact op_passU rfl (dj := 103) rfl (oP 101 rfl rfl g593 (oV (v_pick_t rfl g593 rfl) (hJ592 _ () h _ (join_imp 8 rfl rfl (mod_cons (j := 109) rfl (fun _ _ h => h) mod_nil) (.cons .here (.cons .here (.cons .here (.cons .here .nil))))))))
     ·
      refine oK 101 rfl rfl rfl g593 (v_move rfl) (oK 101 rfl rfl rfl g593 (v_move rfl) (rl_j (jb 108) je .nil h 5 rfl (fun q594 g594 h => ?_) (fun J595 h hJ595 => ?_)))
      ·
       exact oV (v_pick_f rfl g593 rfl) (hJ592 _ () h _ (join_imp 4 rfl rfl (mod_cons (j := 109) rfl (fun _ _ h => h) mod_nil) (.cons .here (.cons .here (.cons .here (.cons .here .nil))))))
      ·
       refine rl_condM (j := 103) h rfl (fun g596 h => ?_) (fun g596 h => ?_)
       ·
        refine oK 103 rfl rfl rfl g596 (v_fa rfl GItem.f1 fd97_1) (op_take rfl rfl (dj := 103) rfl g596 (t_loadC (R := isv (q560.number)) ty2 rfl .here (fun _ _ h => h) (oK 103 rfl rfl rfl g596 (v_move rfl) (oK 103 rfl rfl rfl g596 (v_leq rfl rfl) (oK 101 rfl rfl rfl g593 (v_pick_t rfl g596 rfl) ?_)))))
        exact hJ595 _ () h _ (join_imp 5 rfl rfl (mod_cons (j := 108) rfl (fun _ _ h => h) mod_nil) (.cons .here (.cons .here (.cons .here (.cons .here .nil)))))
       ·
        refine oP 103 rfl rfl g596 (oP 103 rfl rfl g596 (oP 103 rfl rfl g596 (oP 103 rfl rfl g596 (oK 101 rfl rfl rfl g593 (v_pick_f rfl g596 rfl) ?_))))
        exact hJ595 _ () h _ (join_imp 5 rfl rfl (mod_cons (j := 108) rfl (fun _ _ h => h) mod_nil) (.cons .here (.cons .here (.cons .here (.cons .here .nil)))))
   ·
    refine w_condM h rfl (fun _ h => ?_) (fun _ h => ?_)
    ·
     refine wsr (oV (v_fa rfl GItem.f1 fd97_1) (oT (t_storeC (y' := ({ y558 with number := (0 : Int) } : GItem)) ty2 rfl rfl (fun _ _ h => h) .here rfl (rnf (wsr ?_)))))
     refine oA rfl (rnf (w_block (w_lp (ι := Int × GItem) (γ := Unit) (fun q562 g562 => [(13, ptrv b559 (Fld.id GItem)), (14, isv (q562.1))]) (fun q562 g562 => [boxE b559 (q562.2 : GItem)]) h () (mod_cons (j := 13) rfl (fun _ _ h => h) (mod_cons (j := 14) rfl (fun _ _ h => h) mod_nil)) (.cons .here .nil) (fun L563 q562 g562 Q590 h hL563 eL563 rL563 => w_seq ?_))))
     refine wsr (oM rfl (oM rfl (oV (v_ln (l := q354.1) rfl appv_isv sl84) (oV (v_lss rfl rfl) ?_))))
     refine rnf (w_condM h rfl (fun _ h => ?_) (fun _ h => ?_))
     ·
      refine wkf (w_seq (w_J (ι := GItem) (γ := Unit) (fun q577 g577 => [(13, ptrv b559 (Fld.id GItem))]) (fun q577 g577 => [boxE b559 (q577 : GItem)]) (.cons .here .nil) h (fun q577 g577 h => ?_) (fun J578 h hJ578 => ?_)))
      ·
       refine w_region (oM rfl (ck_inv h fun q589 h => oV (v_add rfl rfl q589) (oA rfl ?_)))
       exact rl_nil (hL563 _ () h _ (join_imp 10 rfl rfl (mod_cons (j := 13) rfl (fun _ _ h => h) (mod_cons (j := 14) rfl (fun _ _ h => h) mod_nil)) (.cons .here (.cons .here (.cons .here (.cons .here .nil))))))
      ·
       refine w_block (w_seq (wsr (oM rfl (oM rfl ?_))))
       refine cal_inv h fun y579 hy579 h => oV (v_ix (l := q354.1) rfl appv_isv rfl sl84 hy579) (oV (v_fi rfl GItem.f1 fd97_1 rfl (z := y579.number)) (oV (v_loadI ty2 rfl) (oV (v_eql rfl rfl) ?_)))
       refine rnf (w_condM h rfl (fun _ h => ?_) (fun _ h => ?_))
       ·
        refine wsr (oM rfl (cal_inv h fun y580 hy580 h => oT (t_call (r10_maker_fail_w hy580) hT (.same rfl (.same rfl .nil)) (.cons (.there (.there .here)) (.cons (.there (.there .here)) .nil)) (fun R H' hR => ?_))))
        obtain ⟨rfl, rfl⟩ := hR
        refine rnf (wsr (oA rfl (rnf (w_ret ?_))))
        refine ret_nxt (ret_block (ret_nxt (rL563 _ (ret_block ?_))))
        refine ret_nxt (ret_block (ret_nxt (rL355 _ (ret_block ?_))))
        refine ret_nxt (ret_post (.as rfl (nilv_isv (α := GItem)) .nil) (.cons .here (.cons .here .nil)) ?_)
        obtain rfl := Option.some.inj h
        exact ⟨rfl, rfl⟩
       ·
        refine wkf (w_seq (w_pinN 13 .here rfl (fun o581 hn582 => w_regionD (.v 0 (.v 1 (.v 2 (.v 3 (.v 4 (.v 5 (.v 6 (.v 7 (.v 8 (.v 9 (.v 10 (.v 11 .nil)))))))))))) moOrd (by kernel_rfl) ?_)))
        refine rvm rfl rfl (rd_v rfl (v_eql rfl rfl) (rvm rfl rfl (rd_j (jb 92) je .nil h 9 rfl (fun q583 g583 h => ?_) (fun J584 h hJ584 => ?_))))
        ·
         refine rd_nil (fin_unpinN 13 hn582 rfl (fin_nxt (w_condM h rfl (fun _ h => ?_) (fun _ h => ?_))))
         ·
          refine w_region (oM rfl (oM rfl (cal_inv h fun y587 hy587 h => oV (v_ix (l := q354.1) rfl appv_isv rfl sl84 hy587) ?_)))
          refine oV (v_fi rfl GItem.f1 fd97_1 rfl (z := y587.number)) (oV (v_loadI ty2 rfl) (ck_inv h fun q588 h => oV (v_add rfl rfl q588) (oV (v_fa rfl GItem.f1 fd97_1) ?_)))
          exact oT (t_storeC (y' := ({ q562.2 with number := (y587.number + (1 : Int)) } : GItem)) ty2 rfl rfl (fun _ _ h => h) .here rfl (rl_nil (fin_block (hJ578 _ () h _ (join_imp 19 rfl rfl (mod_cons (j := 13) rfl (fun _ _ h => h) mod_nil) (.cons .here (.cons .here (.cons .here (.cons .here .nil)))))))))
         ·
          exact w_skip (fin_block (hJ578 _ () h _ (join_imp 12 rfl rfl (mod_cons (j := 13) rfl (fun _ _ h => h) mod_nil) (.cons .here (.cons .here (.cons .here (.cons .here .nil)))))))
        ·
         refine rd_condM (j := 83) h rfl (fun g585 h => ?_) (fun g585 h => ?_)
         ·
          refine rpv 83 rfl rfl rfl g585 (rpv 83 rfl rfl rfl g585 (rpv 83 rfl rfl rfl g585 (rpv 83 rfl rfl rfl g585 (rpv 83 rfl rfl rfl g585 ?_))))
          exact rpv 83 rfl rfl rfl g585 (rpv 83 rfl rfl rfl g585 (rpv 83 rfl rfl rfl g585 (rd_v rfl (v_pick_t rfl g585 rfl) (hJ584 _ () h _ (join_imp 9 rfl rfl (mod_cons (j := 92) rfl (fun _ _ h => h) mod_nil) (.cons .here (.cons .here (.cons .here .nil))))))))
         ·
          refine rvt 83 rfl rfl rfl g585 (v_move rfl) (rvt 83 rfl rfl rfl g585 (v_move rfl) (cal_inv h fun y586 hy586 h => rvt 83 rfl rfl rfl g585 (v_ix (l := q354.1) rfl appv_isv rfl sl84 hy586) (rvt 83 rfl rfl rfl g585 (v_fi rfl GItem.f1 fd97_1 rfl (z := y586.number)) ?_)))
          refine rvt 83 rfl rfl rfl g585 (v_loadI ty2 rfl) (rvt 83 rfl rfl rfl g585 (v_fp rfl GItem.f1 fd97_1) (rvt 83 rfl rfl rfl g585 (v_lpC (R := isv (q562.2.number)) ty2 rfl (List.Mem.head _) (fun _ _ h => h)) (rvt 83 rfl rfl rfl g585 (v_geq rfl rfl) (rd_v rfl (v_pick_f rfl g585 rfl) ?_))))
          exact hJ584 _ () h _ (join_imp 9 rfl rfl (mod_cons (j := 92) rfl (fun _ _ h => h) mod_nil) (.cons .here (.cons .here (.cons .here .nil))))
     ·
      exact w_exit (exi_nxt (eL563 _ _ (exi_block (hJ561 _ () h _ (join_imp 8 rfl rfl (mod_cons (j := 13) rfl (fun _ _ h => h) mod_nil) (.cons .here (.cons .here (.cons .here (.cons .here .nil)))))))))
    ·
     exact w_skip (hJ561 _ () h _ (join_imp 0 rfl rfl (mod_cons (j := 13) rfl (fun _ _ h => h) mod_nil) (.cons .here (.cons .here (.cons .here (.cons .here .nil))))))
  ·
   refine w_exit (exi_nxt (eL355 _ _ (exi_block (fin_nxt ?_))))
   refine w_seq (wsr (oA rfl (rnf (w_block ?_))))
   refine w_lp (ι := Bool × Int) (γ := Unit) (fun q601 g601 => [(11, isv (q601.1)), (15, isv (q601.2))]) (fun q601 g601 => []) h () (mod_cons (j := 11) rfl (fun _ _ h => h) (mod_cons (j := 15) rfl (fun _ _ h => h) mod_nil)) .nil (fun L602 q601 g601 Q663 h hL602 eL602 rL602 => w_seq (wsr (oM rfl (oM rfl ?_))))
   refine oV (v_ln (l := q354.1) rfl appv_isv sl84) (oV (v_lss rfl rfl) (rnf (w_condM h rfl (fun _ h => ?_) (fun _ h => ?_))))
   ·
    refine wkf (w_seq (w_block (wsr (oA rfl ?_))))
    refine rnf (w_block (w_lp (ι := Bool × Int) (γ := Unit) (fun q633 g633 => [(11, isv (q633.1)), (16, isv (q633.2))]) (fun q633 g633 => []) h () (mod_cons (j := 11) rfl (fun _ _ h => h) (mod_cons (j := 16) rfl (fun _ _ h => h) mod_nil)) .nil (fun L634 q633 g633 Q659 h hL634 eL634 rL634 => w_seq (wsr ?_))))
    refine oM rfl (oM rfl (oV (v_lss rfl rfl) (rnf (w_condM h rfl (fun _ h => ?_) (fun _ h => ?_)))))
    ·
     refine wkf (w_seq (w_block (w_regionD (.v 0 (.v 1 (.v 2 (.v 3 (.v 4 (.v 5 (.v 6 (.v 7 (.v 8 (.v 9 (.v 10 (.v 11 (.v 12 (.v 13 (.v 14 (.v 15 (.v 16 (.v 17 (.v 18 (.v 19 (.v 20 (.v 21 (.v 22 (.v 23 (.v 24 (.v 25 (.v 26 (.v 27 .nil)))))))))))))))))))))))))))) moOrd (by kernel_rfl) ?_)))
     refine rvm rfl rfl (rvm rfl rfl (rd_j (jb 141) je .nil h 12 rfl (fun q647 g647 h => ?_) (fun J648 h hJ648 => ?_)))
     ·
      refine rvm rfl rfl (rd_j (jb 154) je .nil h 12 rfl (fun q652 g652 h => ?_) (fun J653 h hJ653 => ?_))
      ·
       refine rd_v rfl (v_assign rfl) (rd_nil (fin_block (fin_nxt (w_region ?_))))
       refine oM rfl (ck_inv h fun q657 h => oV (v_add rfl rfl q657) (oA rfl (rl_nil ?_)))
       exact hL634 _ () h _ (join_imp 14 rfl rfl (mod_cons (j := 11) rfl (fun _ _ h => h) (mod_cons (j := 16) rfl (fun _ _ h => h) mod_nil)) (.cons .here (.cons .here (.cons .here .nil))))
      ·
       refine rd_condM (j := 142) h rfl (fun g654 h => ?_) (fun g654 h => ?_)
       ·
        refine rpv 142 rfl rfl rfl g654 (rpv 142 rfl rfl rfl g654 (rpv 142 rfl rfl rfl g654 (rpv 142 rfl rfl rfl g654 (rpv 142 rfl rfl rfl g654 ?_))))
        refine rpv 142 rfl rfl rfl g654 (rpv 142 rfl rfl rfl g654 (rpv 142 rfl rfl rfl g654 (rpv 142 rfl rfl rfl g654 (rpv 142 rfl rfl rfl g654 ?_))))
        exact rpv 142 rfl rfl rfl g654 (rd_v rfl (v_pick_t rfl g654 rfl) (hJ653 _ () h _ (join_imp 12 rfl rfl (mod_cons (j := 154) rfl (fun _ _ h => h) mod_nil) (.cons .here (.cons .here (.cons .here .nil))))))
       ·
        refine rvt 142 rfl rfl rfl g654 (v_move rfl) (rvt 142 rfl rfl rfl g654 (v_move rfl) (cal_inv h fun y655 hy655 h => rvt 142 rfl rfl rfl g654 (v_ix (l := q354.1) rfl appv_isv rfl sl84 hy655) (rvt 142 rfl rfl rfl g654 (v_fi rfl GItem.f1 fd97_1 rfl (z := y655.number)) ?_)))
        refine rvt 142 rfl rfl rfl g654 (v_loadI ty2 rfl) (rvt 142 rfl rfl rfl g654 (v_move rfl) (rvt 142 rfl rfl rfl g654 (v_move rfl) (cal_inv h fun y656 hy656 h => rvt 142 rfl rfl rfl g654 (v_ix (l := q354.1) rfl appv_isv rfl sl84 hy656) ?_)))
        exact rvt 142 rfl rfl rfl g654 (v_fi rfl GItem.f1 fd97_1 rfl (z := y656.number)) (rvt 142 rfl rfl rfl g654 (v_loadI ty2 rfl) (rvt 142 rfl rfl rfl g654 (v_eql rfl rfl) (rd_v rfl (v_pick_f rfl g654 rfl) (hJ653 _ () h _ (join_imp 12 rfl rfl (mod_cons (j := 154) rfl (fun _ _ h => h) mod_nil) (.cons .here (.cons .here (.cons .here .nil))))))))
     ·
      refine rd_condM (j := 129) h rfl (fun g649 h => ?_) (fun g649 h => ?_)
      ·
       refine rpv 129 rfl rfl rfl g649 (rpv 129 rfl rfl rfl g649 (rpv 129 rfl rfl rfl g649 (rpv 129 rfl rfl rfl g649 (rpv 129 rfl rfl rfl g649 ?_))))
       refine rpv 129 rfl rfl rfl g649 (rpv 129 rfl rfl rfl g649 (rpv 129 rfl rfl rfl g649 (rpv 129 rfl rfl rfl g649 (rpv 129 rfl rfl rfl g649 ?_))))
       exact rpv 129 rfl rfl rfl g649 (rd_v rfl (v_pick_t rfl g649 rfl) (hJ648 _ () h _ (join_imp 12 rfl rfl (mod_cons (j := 141) rfl (fun _ _ h => h) mod_nil) (.cons .here (.cons .here (.cons .here .nil))))))
      ·
       refine rvt 129 rfl rfl rfl g649 (v_move rfl) (rvt 129 rfl rfl rfl g649 (v_move rfl) (cal_inv h fun y650 hy650 h => rvt 129 rfl rfl rfl g649 (v_ix (l := q354.1) rfl appv_isv rfl sl84 hy650) (rvt 129 rfl rfl rfl g649 (v_fi rfl GItem.f0 fd97_0 rfl (z := y650.name)) ?_)))
       refine rvt 129 rfl rfl rfl g649 (v_loadI ty9 rfl) (rvt 129 rfl rfl rfl g649 (v_move rfl) (rvt 129 rfl rfl rfl g649 (v_move rfl) (cal_inv h fun y651 hy651 h => rvt 129 rfl rfl rfl g649 (v_ix (l := q354.1) rfl appv_isv rfl sl84 hy651) ?_)))
       exact rvt 129 rfl rfl rfl g649 (v_fi rfl GItem.f0 fd97_0 rfl (z := y651.name)) (rvt 129 rfl rfl rfl g649 (v_loadI ty9 rfl) (rvt 129 rfl rfl rfl g649 (v_eqA eq9 rfl rfl) (rd_v rfl (v_pick_f rfl g649 rfl) (hJ648 _ () h _ (join_imp 12 rfl rfl (mod_cons (j := 141) rfl (fun _ _ h => h) mod_nil) (.cons .here (.cons .here (.cons .here .nil))))))))
    ·
     refine w_exit (exi_nxt (eL634 _ _ (exi_block (fin_block ?_))))
     refine fin_nxt (w_region (oM rfl (ck_inv h fun q658 h => oV (v_add rfl rfl q658) ?_)))
     exact oA rfl (rl_nil (hL602 _ () h _ (join_imp 15 rfl rfl (mod_cons (j := 11) rfl (fun _ _ h => h) (mod_cons (j := 15) rfl (fun _ _ h => h) mod_nil)) (.cons .here (.cons .here (.cons .here .nil))))))
   ·
    refine w_exit (exi_nxt (eL602 _ _ (exi_block (fin_nxt ?_))))
    refine w_seq (wsr (oM rfl (rnf (w_J (ι := GMk) (γ := Unit) (fun q660 g660 => []) (fun q660 g660 => [boxE b_a_x ((q660.m, (Vh.mk v_a_x1 q660.l.length), q660.e) : (GMod × Vh × Int)), vecE v_a_x1 (q660.l : List GTyp)]) (.cons (.there .here) (.cons (.there .here) .nil)) h (fun q660 g660 h => ?_) (fun J661 h hJ661 => ?_)))))
    ·
     refine wsr (oM rfl (oA rfl (rnf (w_ret ?_))))
     refine ret_post (.as rfl appv_isv .nil) (.cons .here (.cons .here .nil)) ?_
     obtain rfl := Option.some.inj h
     exact ⟨rfl, rfl⟩
    ·
     refine w_condM h rfl (fun _ h => ?_) (fun _ h => ?_)
     ·
      refine w_region (oM rfl (cal_inv h fun y662 hy662 h => oT (t_call (r10_maker_fail_w hy662) hT (.same rfl (.same rfl .nil)) (.cons (.there .here) (.cons (.there .here) .nil)) (fun R H' hR => ?_))))
      obtain ⟨rfl, rfl⟩ := hR
      exact rl_nil (hJ661 _ () h _ (join_imp 2 rfl rfl mod_nil (.cons .here (.cons .here (.cons .here .nil)))))
     ·
      exact w_skip (hJ661 _ () h _ (join_imp 0 rfl rfl mod_nil (.cons (.there .here) (.cons (.there .here) (.cons .here .nil)))))


theorem r08_Within_w : ∀ {a_c : GCon} {a_v : Int} {r : Bool}, r08_Within a_c a_v = some r → Ctr Tryz.prog 91 [isv (a_c), isv (a_v)] [] (fun R H => R = oneOf [isv (r)] ∧ H = []) := by
 intro a_c a_v r h
 unfold r08_Within at h
 refine spec_intro Tryz.func91 rfl (by decide +kernel) (by rfl) fun w0 S0 hT => ?_
 refine wsr (oT (t_boxIC (y := a_c) rfl (fun _ _ h => h) (oA rfl (rnf (wsr ?_)))))
 refine oV (v_fi rfl GCon.f0 fd83_0 rfl (z := a_c.has)) (oV (v_loadI ty4 rfl) (oV (v_not rfl) (oM rfl (rl_j (jb 29) je .nil h 21 rfl (fun q1 g1 h => ?_) (fun J2 h hJ2 => ?_)))))
 ·
  refine oA rfl (rnf (w_ret (ret_post (.tmp rfl .nil) .nil ?_)))
  obtain rfl := Option.some.inj h
  exact ⟨rfl, rfl⟩
 ·
  refine rl_condM (j := 8) h rfl (fun g3 h => ?_) (fun g3 h => ?_)
  ·
   refine oP 8 rfl rfl g3 (oP 8 rfl rfl g3 (oP 8 rfl rfl g3 (oP 8 rfl rfl g3 (op_passU rfl (dj := 12) rfl ?_))))
   refine op_passU rfl (dj := 12) rfl (op_passU rfl (dj := 12) rfl (op_passU rfl (dj := 12) rfl (oP 8 rfl rfl g3 (oP 8 rfl rfl g3 ?_))))
   refine op_passU rfl (dj := 18) rfl (op_passU rfl (dj := 18) rfl (op_passU rfl (dj := 18) rfl (op_passU rfl (dj := 18) rfl (op_passU rfl (dj := 22) rfl ?_))))
   refine op_passU rfl (dj := 22) rfl (op_passU rfl (dj := 22) rfl (op_passU rfl (dj := 22) rfl (op_passU rfl (dj := 18) rfl (oP 8 rfl rfl g3 ?_))))
   exact oV (v_pick_t rfl g3 rfl) (hJ2 _ () h _ (ji 21 29 rfl rfl rfl))
  ·
   refine oK 8 rfl rfl rfl g3 (v_fi rfl GCon.f1 fd83_1 rfl (z := a_c.hasLow)) (oK 8 rfl rfl rfl g3 (v_loadI ty4 rfl) (oK 8 rfl rfl rfl g3 (v_not rfl) (oK 8 rfl rfl rfl g3 (v_move rfl) (rl_j (jb 17) je .nil h 5 rfl (fun q4 g4 h => ?_) (fun J5 h hJ5 => ?_)))))
   ·
    refine oK 8 rfl rfl rfl g3 (v_move rfl) (rl_j (jb 28) je .nil h 10 rfl (fun q7 g7 h => ?_) (fun J8 h hJ8 => ?_))
    ·
     exact oV (v_pick_f rfl g3 rfl) (hJ2 _ () h _ (ji 8 29 rfl rfl rfl))
    ·
     refine rl_condM (j := 18) h rfl (fun g9 h => ?_) (fun g9 h => ?_)
     ·
      refine oK 18 rfl rfl rfl g9 (v_fi rfl GCon.f2 fd83_2 rfl (z := a_c.hasHigh)) (oK 18 rfl rfl rfl g9 (v_loadI ty4 rfl) (oK 18 rfl rfl rfl g9 (v_not rfl) (oK 18 rfl rfl rfl g9 (v_move rfl) (rl_j (jb 27) je .nil h 5 rfl (fun q10 g10 h => ?_) (fun J11 h hJ11 => ?_)))))
      ·
       exact oK 8 rfl rfl rfl g3 (v_pick_t rfl g9 rfl) (hJ8 _ () h _ (ji 6 28 rfl rfl rfl))
      ·
       refine rl_condM (j := 22) h rfl (fun g12 h => ?_) (fun g12 h => ?_)
       ·
        refine oP 22 rfl rfl g12 (oP 22 rfl rfl g12 (oP 22 rfl rfl g12 (oP 22 rfl rfl g12 (oK 18 rfl rfl rfl g9 (v_pick_t rfl g12 rfl) ?_))))
        exact hJ11 _ () h _ (ji 5 27 rfl rfl rfl)
       ·
        refine oK 22 rfl rfl rfl g12 (v_move rfl) (oK 22 rfl rfl rfl g12 (v_fi rfl GCon.f5 fd83_5 rfl (z := a_c.high)) (oK 22 rfl rfl rfl g12 (v_loadI ty2 rfl) (oK 22 rfl rfl rfl g12 (v_leq rfl rfl) (oK 18 rfl rfl rfl g9 (v_pick_f rfl g12 rfl) ?_))))
        exact hJ11 _ () h _ (ji 5 27 rfl rfl rfl)
     ·
      refine oP 18 rfl rfl g9 (oP 18 rfl rfl g9 (oP 18 rfl rfl g9 (oP 18 rfl rfl g9 (op_passU rfl (dj := 22) rfl ?_))))
      refine op_passU rfl (dj := 22) rfl (op_passU rfl (dj := 22) rfl (op_passU rfl (dj := 22) rfl (oP 18 rfl rfl g9 (oK 8 rfl rfl rfl g3 (v_pick_f rfl g9 rfl) ?_))))
      exact hJ8 _ () h _ (ji 10 28 rfl rfl rfl)
   ·
    refine rl_condM (j := 12) h rfl (fun g6 h => ?_) (fun g6 h => ?_)
    ·
     refine oP 12 rfl rfl g6 (oP 12 rfl rfl g6 (oP 12 rfl rfl g6 (oP 12 rfl rfl g6 (oK 8 rfl rfl rfl g3 (v_pick_t rfl g6 rfl) ?_))))
     exact hJ5 _ () h _ (ji 5 17 rfl rfl rfl)
    ·
     refine oK 12 rfl rfl rfl g6 (v_move rfl) (oK 12 rfl rfl rfl g6 (v_fi rfl GCon.f4 fd83_4 rfl (z := a_c.low)) (oK 12 rfl rfl rfl g6 (v_loadI ty2 rfl) (oK 12 rfl rfl rfl g6 (v_geq rfl rfl) (oK 8 rfl rfl rfl g3 (v_pick_f rfl g6 rfl) ?_))))
     exact hJ5 _ () h _ (ji 5 17 rfl rfl rfl)


theorem utf8_word_Lbyte_w : ∀ {a_s : (List UInt8)} {r : UInt64}, utf8_word_Lbyte a_s = some r → Ctr Tryz.prog 131 [isv (a_s)] [] (fun R H => R = oneOf [isv (r)] ∧ H = []) := by
 intro a_s r h
 unfold utf8_word_Lbyte at h
 refine spec_intro Tryz.func131 rfl (by decide +kernel) (by rfl) fun w0 S0 hT => ?_
 refine wsr (oA rfl (rnf (w_seq (w_cond_f rfl rfl ?_))))
 refine wkf (w_seq (w_regionD (.v 0 (.v 1 (.v 2 (.v 3 (.v 4 (.v 5 (.v 6 (.v 7 (.v 8 (.v 9 (.v 10 (.v 11 (.v 12 (.v 13 (.v 14 (.v 15 (.v 16 (.v 17 (.v 18 (.v 19 (.v 20 (.v 21 (.v 22 (.v 23 (.v 24 (.v 25 (.v 26 (.v 27 (.v 28 (.v 29 (.v 30 (.v 31 (.v 32 (.v 33 (.v 34 (.v 35 (.v 36 (.v 37 (.v 38 (.v 39 (.v 40 (.v 41 (.v 42 (.v 43 (.v 44 (.v 45 (.v 46 .nil))))))))))))))))))))))))))))))))))))))))))))))) moOrd (by kernel_rfl) ?_))
 refine rvm rfl rfl (cal_inv h fun y1 hy1 h => rd_v rfl (v_ix (l := a_s) rfl (fun _ _ h => h) rfl sl42 hy1) (rd_v rfl (v_loadI ty5 rfl) (rd_v rfl (v_u8u64 Tryz.underlying5 Tryz.underlying41 rfl) ?_)))
 refine rvm rfl rfl (cal_inv h fun y2 hy2 h => rd_v rfl (v_ix (l := a_s) rfl (fun _ _ h => h) rfl sl42 hy2) (rd_v rfl (v_loadI ty5 rfl) (rd_v rfl (v_u8u64 Tryz.underlying5 Tryz.underlying41 rfl) ?_)))
 refine asr_inv h fun q3 h => rd_v rfl (v_shl64 rfl rfl q3) (rd_v rfl (v_or64 rfl rfl) (rvm rfl rfl (cal_inv h fun y4 hy4 h => ?_)))
 refine rd_v rfl (v_ix (l := a_s) rfl (fun _ _ h => h) rfl sl42 hy4) (rd_v rfl (v_loadI ty5 rfl) (rd_v rfl (v_u8u64 Tryz.underlying5 Tryz.underlying41 rfl) (asr_inv h fun q5 h => rd_v rfl (v_shl64 rfl rfl q5) ?_)))
 refine rd_v rfl (v_or64 rfl rfl) (rvm rfl rfl (cal_inv h fun y6 hy6 h => rd_v rfl (v_ix (l := a_s) rfl (fun _ _ h => h) rfl sl42 hy6) (rd_v rfl (v_loadI ty5 rfl) ?_)))
 refine rd_v rfl (v_u8u64 Tryz.underlying5 Tryz.underlying41 rfl) (asr_inv h fun q7 h => rd_v rfl (v_shl64 rfl rfl q7) (rd_v rfl (v_or64 rfl rfl) (rvm rfl rfl ?_)))
 refine cal_inv h fun y8 hy8 h => rd_v rfl (v_ix (l := a_s) rfl (fun _ _ h => h) rfl sl42 hy8) (rd_v rfl (v_loadI ty5 rfl) (rd_v rfl (v_u8u64 Tryz.underlying5 Tryz.underlying41 rfl) (asr_inv h fun q9 h => ?_)))
 refine rd_v rfl (v_shl64 rfl rfl q9) (rd_v rfl (v_or64 rfl rfl) (rvm rfl rfl (cal_inv h fun y10 hy10 h => rd_v rfl (v_ix (l := a_s) rfl (fun _ _ h => h) rfl sl42 hy10) ?_)))
 refine rd_v rfl (v_loadI ty5 rfl) (rd_v rfl (v_u8u64 Tryz.underlying5 Tryz.underlying41 rfl) (asr_inv h fun q11 h => rd_v rfl (v_shl64 rfl rfl q11) (rd_v rfl (v_or64 rfl rfl) ?_)))
 refine rvm rfl rfl (cal_inv h fun y12 hy12 h => rd_v rfl (v_ix (l := a_s) rfl (fun _ _ h => h) rfl sl42 hy12) (rd_v rfl (v_loadI ty5 rfl) (rd_v rfl (v_u8u64 Tryz.underlying5 Tryz.underlying41 rfl) ?_)))
 refine asr_inv h fun q13 h => rd_v rfl (v_shl64 rfl rfl q13) (rd_v rfl (v_or64 rfl rfl) (rvm rfl rfl (cal_inv h fun y14 hy14 h => ?_)))
 refine rd_v rfl (v_ix (l := a_s) rfl (fun _ _ h => h) rfl sl42 hy14) (rd_v rfl (v_loadI ty5 rfl) (rd_v rfl (v_u8u64 Tryz.underlying5 Tryz.underlying41 rfl) (asr_inv h fun q15 h => rd_v rfl (v_shl64 rfl rfl q15) ?_)))
 refine rd_v rfl (v_or64 rfl rfl) (rd_v rfl (v_assign rfl) (rd_nil (fin_nxt (w_ret ?_))))
 refine ret_post (.tmp rfl .nil) .nil ?_
 obtain rfl := Option.some.inj h
 exact ⟨rfl, rfl⟩


theorem utf8_Valid_w : ∀ {a_p : (List UInt8)} {r : Bool}, utf8_Valid a_p = some r → Ctr Tryz.prog 93 [isv (a_p)] [] (fun R H => R = oneOf [isv (r)] ∧ H = []) := by
 intro a_p r h
 unfold utf8_Valid at h
 refine spec_intro Tryz.func93 rfl (by decide +kernel) (by rfl) fun w0 S0 hT => ?_
 refine wsr (oA rfl (rnf (wsr (oM rfl ?_))))
 refine oM rfl (oV (v_ln (l := a_p) rfl (fun _ _ h => h) sl42) (oM rfl (oV (v_ln (l := a_p) rfl (fun _ _ h => h) sl42) (asd_inv h fun q1 h => ?_))))
 refine oV (v_sl3 (l := a_p) rfl (fun _ _ h => h) sl42 rfl rfl q1.1 q1.2) (oA rfl (rnf (w_seq (w_block ?_))))
 refine w_lp (ι := (List UInt8)) (γ := Unit) (fun q2 g2 => [(0, isv (q2))]) (fun q2 g2 => []) h () (mod_cons (j := 0) rfl (fun _ _ h => h) mod_nil) .nil (fun L3 q2 g2 Q194 h hL3 eL3 rL3 => w_seq (wsr (oM rfl (oV (v_ln (l := q2) rfl (fun _ _ h => h) sl42) ?_))))
 refine oV (v_gtr rfl rfl) (rnf (w_condM h rfl (fun _ h => ?_) (fun _ h => ?_)))
 ·
  refine wkf (w_block (wsr (oM rfl (cal_inv h fun y99 hy99 h => ?_))))
  refine oV (v_ix (l := q2) rfl (fun _ _ h => h) rfl sl42 hy99) (oV (v_loadI ty5 rfl) (oA rfl (rnf (w_seq ?_))))
  refine wsr (oM rfl (oV (v_lss8 rfl rfl) (rnf (w_condM h rfl (fun _ h => ?_) (fun _ h => ?_)))))
  ·
   refine wsr (oM rfl (asd_inv h fun q100 h => oV (v_sl (l := q2) rfl (fun _ _ h => h) sl42 (.inr ⟨_, rfl, rfl⟩) (.inl ⟨rfl, rfl⟩) q100.1 q100.2.1 q100.2.2) (oA rfl ?_)))
   refine rnf (w_seq (wsr (oM rfl (oV (v_ln (l := ((q2.take ((q2.length : Int)).toNat).drop ((1 : Int)).toNat)) rfl (fun _ _ h => h) sl42) ?_))))
   refine oV (v_gtr rfl rfl) (oM rfl (rl_j (jb 31) je .nil h 5 rfl (fun q101 g101 h => ?_) (fun J102 h hJ102 => ?_)))
   ·
    refine rnf (w_J (ι := (List UInt8)) (γ := Unit) (fun q105 g105 => [(0, isv (q105))]) (fun q105 g105 => []) .nil h (fun q105 g105 h => ?_) (fun J106 h hJ106 => ?_))
    ·
     exact w_exit (exi_nxt (exi_block (hL3 _ () h _ (ji 19 0 rfl rfl rfl))))
    ·
     refine w_condM h rfl (fun _ h => ?_) (fun _ h => ?_)
     ·
      refine wsr (oM rfl (asd_inv h fun q107 h => oV (v_sl (l := ((q2.take ((q2.length : Int)).toNat).drop ((1 : Int)).toNat)) rfl (fun _ _ h => h) sl42 (.inr ⟨_, rfl, rfl⟩) (.inl ⟨rfl, rfl⟩) q107.1 q107.2.1 q107.2.2) (oA rfl ?_)))
      refine rnf (w_seq (w_regionD (.v 0 (.v 1 (.v 2 (.v 3 (.v 4 (.v 6 (.v 7 (.t 5 (.t 8 (.v 9 (.v 10 (.v 11 (.v 12 .nil))))))))))))) moOrd (by kernel_rfl) ?_))
      refine rvm rfl rfl (rd_v rfl (v_ln (l := ((((q2.take ((q2.length : Int)).toNat).drop ((1 : Int)).toNat).take ((((q2.take ((q2.length : Int)).toNat).drop ((1 : Int)).toNat).length : Int)).toNat).drop ((8 : Int)).toNat)) rfl (fun _ _ h => h) sl42) (rd_v rfl (v_gtr rfl rfl) (rvm rfl rfl (rd_j (jb 46) je .nil h 9 rfl (fun q108 g108 h => ?_) (fun J109 h hJ109 => ?_)))))
      ·
       refine rd_nil (fin_nxt (w_condM h rfl (fun _ h => ?_) (fun _ h => ?_)))
       ·
        refine wsr (oM rfl (asd_inv h fun q114 h => oV (v_sl (l := ((((q2.take ((q2.length : Int)).toNat).drop ((1 : Int)).toNat).take ((((q2.take ((q2.length : Int)).toNat).drop ((1 : Int)).toNat).length : Int)).toNat).drop ((8 : Int)).toNat)) rfl (fun _ _ h => h) sl42 (.inr ⟨_, rfl, rfl⟩) (.inl ⟨rfl, rfl⟩) q114.1 q114.2.1 q114.2.2) (oA rfl ?_)))
        refine rnf (w_block (w_lp (ι := (List UInt8)) (γ := Unit) (fun q115 g115 => [(0, isv (q115))]) (fun q115 g115 => []) h () (mod_cons (j := 0) rfl (fun _ _ h => h) mod_nil) .nil (fun L116 q115 g115 Q139 h hL116 eL116 rL116 => w_seq (w_seq ?_))))
        refine w_regionD (.v 0 (.v 1 (.v 2 (.v 3 (.v 4 (.v 6 (.v 7 (.v 10 (.v 11 (.v 13 (.v 14 (.t 5 (.t 8 (.v 9 (.t 12 (.t 15 (.v 16 (.v 17 (.v 18 (.v 19 (.v 20 .nil))))))))))))))))))))) moOrd (by kernel_rfl) ?_
        refine rvm rfl rfl (rd_v rfl (v_ln (l := q115) rfl (fun _ _ h => h) sl42) (rd_v rfl (v_gtr rfl rfl) (rvm rfl rfl (rd_j (jb 69) je .nil h 17 rfl (fun q128 g128 h => ?_) (fun J129 h hJ129 => ?_)))))
        ·
         refine rd_nil (fin_nxt (w_condM h rfl (fun _ h => ?_) (fun _ h => ?_)))
         ·
          refine wkf (w_block (w_region (oM rfl (asd_inv h fun q138 h => ?_))))
          exact oV (v_sl (l := q115) rfl (fun _ _ h => h) sl42 (.inr ⟨_, rfl, rfl⟩) (.inl ⟨rfl, rfl⟩) q138.1 q138.2.1 q138.2.2) (oA rfl (rl_nil (fin_block (hL116 _ () h _ (ji 9 0 rfl rfl rfl)))))
         ·
          exact w_exit (exi_nxt (eL116 _ _ (exi_block (hJ106 _ () h _ (ji 17 0 rfl rfl rfl)))))
        ·
         refine rd_condM (j := 52) h rfl (fun g130 h => ?_) (fun g130 h => ?_)
         ·
          refine rvt 52 rfl rfl rfl g130 (v_move rfl) (rvt 52 rfl rfl rfl g130 (v_move rfl) (asd_inv h fun q131 h => rvt 52 rfl rfl rfl g130 (v_sl (l := q115) rfl (fun _ _ h => h) sl42 (.inr ⟨_, rfl, rfl⟩) (.inl ⟨rfl, rfl⟩) q131.1 q131.2.1 q131.2.2) (rvt 52 rfl rfl rfl g130 (v_move rfl) ?_)))
          refine asd_inv h fun q132 h => rvt 52 rfl rfl rfl g130 (v_sl (l := q115) rfl (fun _ _ h => h) sl42 (.inr ⟨_, rfl, rfl⟩) (.inl ⟨rfl, rfl⟩) q132.1 q132.2.1 q132.2.2) (rvt 52 rfl rfl rfl g130 (v_move rfl) (asd_inv h fun q133 h => rvt 52 rfl rfl rfl g130 (v_sl (l := q115) rfl (fun _ _ h => h) sl42 (.inr ⟨_, rfl, rfl⟩) (.inl ⟨rfl, rfl⟩) q133.1 q133.2.1 q133.2.2) ?_))
          refine cal_inv h fun y134 hy134 h => rd_tt rfl rfl rfl (dj := 52) rfl g130 (t_call (utf8_word_Lbyte_w hy134) hT (.same rfl .nil) .nil (fun R H' hR => ?_))
          obtain ⟨rfl, rfl⟩ := hR
          refine cal_inv h fun y135 hy135 h => rd_tt rfl rfl rfl (dj := 52) rfl g130 (t_call (utf8_word_Lbyte_w hy135) hT (.same rfl .nil) .nil (fun R H' hR => ?_))
          obtain ⟨rfl, rfl⟩ := hR
          refine rvt 52 rfl rfl rfl g130 (v_or64 rfl rfl) (cal_inv h fun y136 hy136 h => rd_tt rfl rfl rfl (dj := 52) rfl g130 (t_call (utf8_word_Lbyte_w hy136) hT (.same rfl .nil) .nil (fun R H' hR => ?_)))
          obtain ⟨rfl, rfl⟩ := hR
          refine cal_inv h fun y137 hy137 h => rd_tt rfl rfl rfl (dj := 52) rfl g130 (t_call (utf8_word_Lbyte_w hy137) hT (.same rfl .nil) .nil (fun R H' hR => ?_))
          obtain ⟨rfl, rfl⟩ := hR
          refine rvt 52 rfl rfl rfl g130 (v_or64 rfl rfl) (rvt 52 rfl rfl rfl g130 (v_or64 rfl rfl) (rvt 52 rfl rfl rfl g130 (v_and64 rfl rfl) (rvt 52 rfl rfl rfl g130 (v_eql64 rfl rfl) (rd_v rfl (v_pick_t rfl g130 rfl) ?_))))
          exact hJ129 _ () h _ (ji 17 69 rfl rfl rfl)
         ·
          refine rpv 52 rfl rfl rfl g130 (rpv 52 rfl rfl rfl g130 (rpv 52 rfl rfl rfl g130 (rpv 52 rfl rfl rfl g130 (rpv 52 rfl rfl rfl g130 ?_))))
          refine rpv 52 rfl rfl rfl g130 (rpv 52 rfl rfl rfl g130 (rd_passT rfl rfl (dj := 52) rfl g130 (rd_passT rfl rfl (dj := 52) rfl g130 (rpv 52 rfl rfl rfl g130 ?_))))
          refine rd_passT rfl rfl (dj := 52) rfl g130 (rd_passT rfl rfl (dj := 52) rfl g130 (rpv 52 rfl rfl rfl g130 (rpv 52 rfl rfl rfl g130 (rpv 52 rfl rfl rfl g130 ?_))))
          exact rpv 52 rfl rfl rfl g130 (rd_v rfl (v_pick_f rfl g130 rfl) (hJ129 _ () h _ (ji 17 69 rfl rfl rfl)))
       ·
        exact w_skip (hJ106 _ () h _ (ji 8 0 rfl rfl rfl))
      ·
       refine rd_condM (j := 37) h rfl (fun g110 h => ?_) (fun g110 h => ?_)
       ·
        refine rvt 37 rfl rfl rfl g110 (v_move rfl) (rvt 37 rfl rfl rfl g110 (v_move rfl) (asd_inv h fun q111 h => rvt 37 rfl rfl rfl g110 (v_sl (l := ((((q2.take ((q2.length : Int)).toNat).drop ((1 : Int)).toNat).take ((((q2.take ((q2.length : Int)).toNat).drop ((1 : Int)).toNat).length : Int)).toNat).drop ((8 : Int)).toNat)) rfl (fun _ _ h => h) sl42 (.inr ⟨_, rfl, rfl⟩) (.inl ⟨rfl, rfl⟩) q111.1 q111.2.1 q111.2.2) (cal_inv h fun y112 hy112 h => ?_)))
        refine rd_tt rfl rfl rfl (dj := 37) rfl g110 (t_call (utf8_word_Lbyte_w hy112) hT (.same rfl .nil) .nil (fun R H' hR => ?_))
        obtain ⟨rfl, rfl⟩ := hR
        refine cal_inv h fun y113 hy113 h => rd_tt rfl rfl rfl (dj := 37) rfl g110 (t_call (utf8_word_Lbyte_w hy113) hT (.same rfl .nil) .nil (fun R H' hR => ?_))
        obtain ⟨rfl, rfl⟩ := hR
        exact rvt 37 rfl rfl rfl g110 (v_or64 rfl rfl) (rvt 37 rfl rfl rfl g110 (v_and64 rfl rfl) (rvt 37 rfl rfl rfl g110 (v_eql64 rfl rfl) (rd_v rfl (v_pick_t rfl g110 rfl) (hJ109 _ () h _ (ji 9 46 rfl rfl rfl)))))
       ·
        refine rpv 37 rfl rfl rfl g110 (rpv 37 rfl rfl rfl g110 (rpv 37 rfl rfl rfl g110 (rd_passT rfl rfl (dj := 37) rfl g110 (rd_passT rfl rfl (dj := 37) rfl g110 ?_))))
        exact rpv 37 rfl rfl rfl g110 (rpv 37 rfl rfl rfl g110 (rpv 37 rfl rfl rfl g110 (rd_v rfl (v_pick_f rfl g110 rfl) (hJ109 _ () h _ (ji 9 46 rfl rfl rfl)))))
     ·
      exact w_skip (hJ106 _ () h _ (ji 0 0 rfl rfl rfl))
   ·
    refine rl_condM (j := 26) h rfl (fun g103 h => ?_) (fun g103 h => ?_)
    ·
     refine oK 26 rfl rfl rfl g103 (v_move rfl) (cal_inv h fun y104 hy104 h => op_take rfl rfl (dj := 26) rfl g103 (t_call (utf8_word_Lbyte_w hy104) hT (.same rfl .nil) .nil (fun R H' hR => ?_)))
     obtain ⟨rfl, rfl⟩ := hR
     exact oK 26 rfl rfl rfl g103 (v_and64 rfl rfl) (oK 26 rfl rfl rfl g103 (v_eql64 rfl rfl) (oV (v_pick_t rfl g103 rfl) (hJ102 _ () h _ (ji 5 31 rfl rfl rfl))))
    ·
     refine oP 26 rfl rfl g103 (oP 26 rfl rfl g103 (oP 26 rfl rfl g103 (oP 26 rfl rfl g103 (oV (v_pick_f rfl g103 rfl) ?_))))
     exact hJ102 _ () h _ (ji 5 31 rfl rfl rfl)
  ·
   refine wkf (wsr (oM rfl (oV (v_t1 gl_first ar190 rfl) (oV (v_t1l hT ty5 rfl _ gl_acceptRanges) ?_))))
   refine oA rfl (rnf (wsr (oM rfl (oV (v_and8 rfl rfl) ?_))))
   refine oV (v_u8i Tryz.underlying5 Tryz.underlying3 rfl) (oA rfl (rnf (wsr (oM rfl ?_))))
   refine asr_inv h fun q140 h => oV (v_shr8 rfl rfl q140) (asr_inv h fun q141 h => oV (v_t2 gl_acceptRanges ar193 rfl q141) (oV (v_t2l hT ty192 rfl q141 _ gl_first) ?_))
   refine oT (t_alloc _ ze192 fun b142 => oT (t_storeC (y' := ((tab2 (shr8 (tab1 y99) (4 : UInt64).toNat)) : GAcc)) ty192 rfl rfl (fun _ _ h => h) .here rfl (rl_upd (upd_imm 6 .here rfl) (rnf (wsr ?_)))))
   refine oM rfl (rnf (w_block (wsr (oV (v_eql rfl rfl) ?_))))
   refine oA rfl (rnf (w_condM h rfl (fun _ h => ?_) (fun _ h => ?_)))
   ·
    refine w_seq (w_seq (w_regionD (.v 0 (.v 1 (.v 2 (.v 3 (.v 4 (.v 5 (.v 6 (.v 7 (.v 8 (.v 9 (.v 10 (.v 11 (.v 12 (.v 13 (.v 14 (.v 15 (.v 16 (.v 17 (.v 18 .nil))))))))))))))))))) moOrd (by kernel_rfl) ?_))
    refine rvm rfl rfl (rd_v rfl (v_ln (l := q2) rfl (fun _ _ h => h) sl42) (rd_v rfl (v_lss rfl rfl) (rvm rfl rfl (rd_j (jb 95) je .nil h 7 rfl (fun q143 g143 h => ?_) (fun J144 h hJ144 => ?_)))))
    ·
     refine rvm rfl rfl (rd_j (jb 103) je .nil h 7 rfl (fun q147 g147 h => ?_) (fun J148 h hJ148 => ?_))
     ·
      refine rd_nil (fin_nxt (w_condM h rfl (fun _ h => ?_) (fun _ h => ?_)))
      ·
       refine wsr (oA rfl (rnf (w_ret (ret_nxt ?_))))
       refine ret_block (ret_block (rL3 _ (ret_block (ret_nxt ?_))))
       refine ret_post (.tmp rfl .nil) .nil ?_
       obtain rfl := Option.some.inj h
       exact ⟨rfl, rfl⟩
      ·
       refine wkf (w_region (oM rfl (asd_inv h fun q151 h => oV (v_sl (l := q2) rfl (fun _ _ h => h) sl42 (.inr ⟨_, rfl, rfl⟩) (.inl ⟨rfl, rfl⟩) q151.1 q151.2.1 q151.2.2) ?_)))
       exact oA rfl (rl_nil (fin_block (fin_block (hL3 _ () h _ (ji 37 0 rfl rfl rfl)))))
     ·
      refine rd_condM (j := 96) h rfl (fun g149 h => ?_) (fun g149 h => ?_)
      ·
       refine rpv 96 rfl rfl rfl g149 (rpv 96 rfl rfl rfl g149 (rpv 96 rfl rfl rfl g149 (rpv 96 rfl rfl rfl g149 (rpv 96 rfl rfl rfl g149 ?_))))
       exact rpv 96 rfl rfl rfl g149 (rd_v rfl (v_pick_t rfl g149 rfl) (hJ148 _ () h _ (ji 7 103 rfl rfl rfl)))
      ·
       refine rvt 96 rfl rfl rfl g149 (v_fi rfl GAcc.f1 fd192_1 rfl (z := (tab2 (shr8 (tab1 y99) (4 : UInt64).toNat)).hi)) (rvt 96 rfl rfl rfl g149 (v_loadI ty5 rfl) (rvt 96 rfl rfl rfl g149 (v_move rfl) (cal_inv h fun y150 hy150 h => rvt 96 rfl rfl rfl g149 (v_ix (l := q2) rfl (fun _ _ h => h) rfl sl42 hy150) ?_)))
       exact rvt 96 rfl rfl rfl g149 (v_loadI ty5 rfl) (rvt 96 rfl rfl rfl g149 (v_lss8 rfl rfl) (rd_v rfl (v_pick_f rfl g149 rfl) (hJ148 _ () h _ (ji 7 103 rfl rfl rfl))))
    ·
     refine rd_condM (j := 88) h rfl (fun g145 h => ?_) (fun g145 h => ?_)
     ·
      refine rpv 88 rfl rfl rfl g145 (rpv 88 rfl rfl rfl g145 (rpv 88 rfl rfl rfl g145 (rpv 88 rfl rfl rfl g145 (rpv 88 rfl rfl rfl g145 ?_))))
      exact rpv 88 rfl rfl rfl g145 (rd_v rfl (v_pick_t rfl g145 rfl) (hJ144 _ () h _ (ji 7 95 rfl rfl rfl)))
     ·
      refine rvt 88 rfl rfl rfl g145 (v_move rfl) (cal_inv h fun y146 hy146 h => rvt 88 rfl rfl rfl g145 (v_ix (l := q2) rfl (fun _ _ h => h) rfl sl42 hy146) (rvt 88 rfl rfl rfl g145 (v_loadI ty5 rfl) (rvt 88 rfl rfl rfl g145 (v_fi rfl GAcc.f0 fd192_0 rfl (z := (tab2 (shr8 (tab1 y99) (4 : UInt64).toNat)).lo)) ?_)))
      exact rvt 88 rfl rfl rfl g145 (v_loadI ty5 rfl) (rvt 88 rfl rfl rfl g145 (v_lss8 rfl rfl) (rd_v rfl (v_pick_f rfl g145 rfl) (hJ144 _ () h _ (ji 7 95 rfl rfl rfl))))
   ·
    refine wsr (oV (v_eql rfl rfl) (oA rfl (rnf (w_condM h rfl (fun _ h => ?_) (fun _ h => ?_)))))
    ·
     refine w_seq (w_seq (w_regionD (.v 0 (.v 1 (.v 2 (.v 3 (.v 4 (.v 5 (.v 6 (.v 7 (.v 8 (.v 9 (.v 10 (.v 11 (.v 12 (.v 13 (.v 14 (.v 15 (.v 16 (.v 17 (.v 18 (.v 19 (.v 20 (.v 21 (.v 22 (.v 23 (.v 24 (.v 25 (.v 26 (.v 27 (.v 28 (.v 29 (.v 30 .nil))))))))))))))))))))))))))))))) moOrd (by kernel_rfl) ?_))
     refine rvm rfl rfl (rd_v rfl (v_ln (l := q2) rfl (fun _ _ h => h) sl42) (rd_v rfl (v_lss rfl rfl) (rvm rfl rfl (rd_j (jb 118) je .nil h 7 rfl (fun q152 g152 h => ?_) (fun J153 h hJ153 => ?_)))))
     ·
      refine rvm rfl rfl (rd_j (jb 126) je .nil h 7 rfl (fun q156 g156 h => ?_) (fun J157 h hJ157 => ?_))
      ·
       refine rvm rfl rfl (rd_j (jb 132) je .nil h 5 rfl (fun q160 g160 h => ?_) (fun J161 h hJ161 => ?_))
       ·
        refine rvm rfl rfl (rd_j (jb 138) je .nil h 5 rfl (fun q164 g164 h => ?_) (fun J165 h hJ165 => ?_))
        ·
         refine rd_nil (fin_nxt (w_condM h rfl (fun _ h => ?_) (fun _ h => ?_)))
         ·
          refine wsr (oA rfl (rnf (w_ret (ret_nxt ?_))))
          refine ret_block (ret_block (rL3 _ (ret_block (ret_nxt ?_))))
          refine ret_post (.tmp rfl .nil) .nil ?_
          obtain rfl := Option.some.inj h
          exact ⟨rfl, rfl⟩
         ·
          refine wkf (w_region (oM rfl (asd_inv h fun q168 h => oV (v_sl (l := q2) rfl (fun _ _ h => h) sl42 (.inr ⟨_, rfl, rfl⟩) (.inl ⟨rfl, rfl⟩) q168.1 q168.2.1 q168.2.2) ?_)))
          exact oA rfl (rl_nil (fin_block (fin_block (hL3 _ () h _ (ji 43 0 rfl rfl rfl)))))
        ·
         refine rd_condM (j := 133) h rfl (fun g166 h => ?_) (fun g166 h => ?_)
         ·
          refine rpv 133 rfl rfl rfl g166 (rpv 133 rfl rfl rfl g166 (rpv 133 rfl rfl rfl g166 (rpv 133 rfl rfl rfl g166 (rd_v rfl (v_pick_t rfl g166 rfl) ?_))))
          exact hJ165 _ () h _ (ji 5 138 rfl rfl rfl)
         ·
          refine rvt 133 rfl rfl rfl g166 (v_move rfl) (cal_inv h fun y167 hy167 h => rvt 133 rfl rfl rfl g166 (v_ix (l := q2) rfl (fun _ _ h => h) rfl sl42 hy167) (rvt 133 rfl rfl rfl g166 (v_loadI ty5 rfl) (rvt 133 rfl rfl rfl g166 (v_lss8 rfl rfl) ?_)))
          exact rd_v rfl (v_pick_f rfl g166 rfl) (hJ165 _ () h _ (ji 5 138 rfl rfl rfl))
       ·
        refine rd_condM (j := 127) h rfl (fun g162 h => ?_) (fun g162 h => ?_)
        ·
         refine rpv 127 rfl rfl rfl g162 (rpv 127 rfl rfl rfl g162 (rpv 127 rfl rfl rfl g162 (rpv 127 rfl rfl rfl g162 (rd_v rfl (v_pick_t rfl g162 rfl) ?_))))
         exact hJ161 _ () h _ (ji 5 132 rfl rfl rfl)
        ·
         refine rvt 127 rfl rfl rfl g162 (v_move rfl) (cal_inv h fun y163 hy163 h => rvt 127 rfl rfl rfl g162 (v_ix (l := q2) rfl (fun _ _ h => h) rfl sl42 hy163) (rvt 127 rfl rfl rfl g162 (v_loadI ty5 rfl) (rvt 127 rfl rfl rfl g162 (v_lss8 rfl rfl) ?_)))
         exact rd_v rfl (v_pick_f rfl g162 rfl) (hJ161 _ () h _ (ji 5 132 rfl rfl rfl))
      ·
       refine rd_condM (j := 119) h rfl (fun g158 h => ?_) (fun g158 h => ?_)
       ·
        refine rpv 119 rfl rfl rfl g158 (rpv 119 rfl rfl rfl g158 (rpv 119 rfl rfl rfl g158 (rpv 119 rfl rfl rfl g158 (rpv 119 rfl rfl rfl g158 ?_))))
        exact rpv 119 rfl rfl rfl g158 (rd_v rfl (v_pick_t rfl g158 rfl) (hJ157 _ () h _ (ji 7 126 rfl rfl rfl)))
       ·
        refine rvt 119 rfl rfl rfl g158 (v_fi rfl GAcc.f1 fd192_1 rfl (z := (tab2 (shr8 (tab1 y99) (4 : UInt64).toNat)).hi)) (rvt 119 rfl rfl rfl g158 (v_loadI ty5 rfl) (rvt 119 rfl rfl rfl g158 (v_move rfl) (cal_inv h fun y159 hy159 h => rvt 119 rfl rfl rfl g158 (v_ix (l := q2) rfl (fun _ _ h => h) rfl sl42 hy159) ?_)))
        exact rvt 119 rfl rfl rfl g158 (v_loadI ty5 rfl) (rvt 119 rfl rfl rfl g158 (v_lss8 rfl rfl) (rd_v rfl (v_pick_f rfl g158 rfl) (hJ157 _ () h _ (ji 7 126 rfl rfl rfl))))
     ·
      refine rd_condM (j := 111) h rfl (fun g154 h => ?_) (fun g154 h => ?_)
      ·
       refine rpv 111 rfl rfl rfl g154 (rpv 111 rfl rfl rfl g154 (rpv 111 rfl rfl rfl g154 (rpv 111 rfl rfl rfl g154 (rpv 111 rfl rfl rfl g154 ?_))))
       exact rpv 111 rfl rfl rfl g154 (rd_v rfl (v_pick_t rfl g154 rfl) (hJ153 _ () h _ (ji 7 118 rfl rfl rfl)))
      ·
       refine rvt 111 rfl rfl rfl g154 (v_move rfl) (cal_inv h fun y155 hy155 h => rvt 111 rfl rfl rfl g154 (v_ix (l := q2) rfl (fun _ _ h => h) rfl sl42 hy155) (rvt 111 rfl rfl rfl g154 (v_loadI ty5 rfl) (rvt 111 rfl rfl rfl g154 (v_fi rfl GAcc.f0 fd192_0 rfl (z := (tab2 (shr8 (tab1 y99) (4 : UInt64).toNat)).lo)) ?_)))
       exact rvt 111 rfl rfl rfl g154 (v_loadI ty5 rfl) (rvt 111 rfl rfl rfl g154 (v_lss8 rfl rfl) (rd_v rfl (v_pick_f rfl g154 rfl) (hJ153 _ () h _ (ji 7 118 rfl rfl rfl))))
    ·
     refine wsr (oV (v_eql rfl rfl) (oA rfl (rnf (w_condM h rfl (fun _ h => ?_) (fun _ h => ?_)))))
     ·
      refine w_seq (w_seq (w_regionD (.v 0 (.v 1 (.v 2 (.v 3 (.v 4 (.v 5 (.v 6 (.v 7 (.v 8 (.v 9 (.v 10 (.v 11 (.v 12 (.v 13 (.v 14 (.v 15 (.v 16 (.v 17 (.v 18 (.v 19 (.v 20 (.v 21 (.v 22 (.v 23 (.v 24 (.v 25 (.v 26 (.v 27 (.v 28 (.v 29 (.v 30 (.v 31 (.v 32 (.v 33 (.v 34 (.v 35 (.v 36 (.v 37 (.v 38 (.v 39 (.v 40 (.v 41 (.v 42 .nil))))))))))))))))))))))))))))))))))))))))))) moOrd (by kernel_rfl) ?_))
      refine rvm rfl rfl (rd_v rfl (v_ln (l := q2) rfl (fun _ _ h => h) sl42) (rd_v rfl (v_lss rfl rfl) (rvm rfl rfl (rd_j (jb 153) je .nil h 7 rfl (fun q169 g169 h => ?_) (fun J170 h hJ170 => ?_)))))
      ·
       refine rvm rfl rfl (rd_j (jb 161) je .nil h 7 rfl (fun q173 g173 h => ?_) (fun J174 h hJ174 => ?_))
       ·
        refine rvm rfl rfl (rd_j (jb 167) je .nil h 5 rfl (fun q177 g177 h => ?_) (fun J178 h hJ178 => ?_))
        ·
         refine rvm rfl rfl (rd_j (jb 173) je .nil h 5 rfl (fun q181 g181 h => ?_) (fun J182 h hJ182 => ?_))
         ·
          refine rvm rfl rfl (rd_j (jb 179) je .nil h 5 rfl (fun q185 g185 h => ?_) (fun J186 h hJ186 => ?_))
          ·
           refine rvm rfl rfl (rd_j (jb 185) je .nil h 5 rfl (fun q189 g189 h => ?_) (fun J190 h hJ190 => ?_))
           ·
            refine rd_nil (fin_nxt (w_condM h rfl (fun _ h => ?_) (fun _ h => ?_)))
            ·
             refine wsr (oA rfl (rnf (w_ret (ret_nxt ?_))))
             refine ret_block (ret_block (rL3 _ (ret_block (ret_nxt ?_))))
             refine ret_post (.tmp rfl .nil) .nil ?_
             obtain rfl := Option.some.inj h
             exact ⟨rfl, rfl⟩
            ·
             refine wkf (w_region (oM rfl (asd_inv h fun q193 h => oV (v_sl (l := q2) rfl (fun _ _ h => h) sl42 (.inr ⟨_, rfl, rfl⟩) (.inl ⟨rfl, rfl⟩) q193.1 q193.2.1 q193.2.2) ?_)))
             exact oA rfl (rl_nil (fin_block (fin_block (hL3 _ () h _ (ji 49 0 rfl rfl rfl)))))
           ·
            refine rd_condM (j := 180) h rfl (fun g191 h => ?_) (fun g191 h => ?_)
            ·
             refine rpv 180 rfl rfl rfl g191 (rpv 180 rfl rfl rfl g191 (rpv 180 rfl rfl rfl g191 (rpv 180 rfl rfl rfl g191 (rd_v rfl (v_pick_t rfl g191 rfl) ?_))))
             exact hJ190 _ () h _ (ji 5 185 rfl rfl rfl)
            ·
             refine rvt 180 rfl rfl rfl g191 (v_move rfl) (cal_inv h fun y192 hy192 h => rvt 180 rfl rfl rfl g191 (v_ix (l := q2) rfl (fun _ _ h => h) rfl sl42 hy192) (rvt 180 rfl rfl rfl g191 (v_loadI ty5 rfl) (rvt 180 rfl rfl rfl g191 (v_lss8 rfl rfl) ?_)))
             exact rd_v rfl (v_pick_f rfl g191 rfl) (hJ190 _ () h _ (ji 5 185 rfl rfl rfl))
          ·
           refine rd_condM (j := 174) h rfl (fun g187 h => ?_) (fun g187 h => ?_)
           ·
            refine rpv 174 rfl rfl rfl g187 (rpv 174 rfl rfl rfl g187 (rpv 174 rfl rfl rfl g187 (rpv 174 rfl rfl rfl g187 (rd_v rfl (v_pick_t rfl g187 rfl) ?_))))
            exact hJ186 _ () h _ (ji 5 179 rfl rfl rfl)
           ·
            refine rvt 174 rfl rfl rfl g187 (v_move rfl) (cal_inv h fun y188 hy188 h => rvt 174 rfl rfl rfl g187 (v_ix (l := q2) rfl (fun _ _ h => h) rfl sl42 hy188) (rvt 174 rfl rfl rfl g187 (v_loadI ty5 rfl) (rvt 174 rfl rfl rfl g187 (v_lss8 rfl rfl) ?_)))
            exact rd_v rfl (v_pick_f rfl g187 rfl) (hJ186 _ () h _ (ji 5 179 rfl rfl rfl))
         ·
          refine rd_condM (j := 168) h rfl (fun g183 h => ?_) (fun g183 h => ?_)
          ·
           refine rpv 168 rfl rfl rfl g183 (rpv 168 rfl rfl rfl g183 (rpv 168 rfl rfl rfl g183 (rpv 168 rfl rfl rfl g183 (rd_v rfl (v_pick_t rfl g183 rfl) ?_))))
           exact hJ182 _ () h _ (ji 5 173 rfl rfl rfl)
          ·
           refine rvt 168 rfl rfl rfl g183 (v_move rfl) (cal_inv h fun y184 hy184 h => rvt 168 rfl rfl rfl g183 (v_ix (l := q2) rfl (fun _ _ h => h) rfl sl42 hy184) (rvt 168 rfl rfl rfl g183 (v_loadI ty5 rfl) (rvt 168 rfl rfl rfl g183 (v_lss8 rfl rfl) ?_)))
           exact rd_v rfl (v_pick_f rfl g183 rfl) (hJ182 _ () h _ (ji 5 173 rfl rfl rfl))
        ·
         refine rd_condM (j := 162) h rfl (fun g179 h => ?_) (fun g179 h => ?_)
         ·
          refine rpv 162 rfl rfl rfl g179 (rpv 162 rfl rfl rfl g179 (rpv 162 rfl rfl rfl g179 (rpv 162 rfl rfl rfl g179 (rd_v rfl (v_pick_t rfl g179 rfl) ?_))))
          exact hJ178 _ () h _ (ji 5 167 rfl rfl rfl)
         ·
          refine rvt 162 rfl rfl rfl g179 (v_move rfl) (cal_inv h fun y180 hy180 h => rvt 162 rfl rfl rfl g179 (v_ix (l := q2) rfl (fun _ _ h => h) rfl sl42 hy180) (rvt 162 rfl rfl rfl g179 (v_loadI ty5 rfl) (rvt 162 rfl rfl rfl g179 (v_lss8 rfl rfl) ?_)))
          exact rd_v rfl (v_pick_f rfl g179 rfl) (hJ178 _ () h _ (ji 5 167 rfl rfl rfl))
       ·
        refine rd_condM (j := 154) h rfl (fun g175 h => ?_) (fun g175 h => ?_)
        ·
         refine rpv 154 rfl rfl rfl g175 (rpv 154 rfl rfl rfl g175 (rpv 154 rfl rfl rfl g175 (rpv 154 rfl rfl rfl g175 (rpv 154 rfl rfl rfl g175 ?_))))
         exact rpv 154 rfl rfl rfl g175 (rd_v rfl (v_pick_t rfl g175 rfl) (hJ174 _ () h _ (ji 7 161 rfl rfl rfl)))
        ·
         refine rvt 154 rfl rfl rfl g175 (v_fi rfl GAcc.f1 fd192_1 rfl (z := (tab2 (shr8 (tab1 y99) (4 : UInt64).toNat)).hi)) (rvt 154 rfl rfl rfl g175 (v_loadI ty5 rfl) (rvt 154 rfl rfl rfl g175 (v_move rfl) (cal_inv h fun y176 hy176 h => rvt 154 rfl rfl rfl g175 (v_ix (l := q2) rfl (fun _ _ h => h) rfl sl42 hy176) ?_)))
         exact rvt 154 rfl rfl rfl g175 (v_loadI ty5 rfl) (rvt 154 rfl rfl rfl g175 (v_lss8 rfl rfl) (rd_v rfl (v_pick_f rfl g175 rfl) (hJ174 _ () h _ (ji 7 161 rfl rfl rfl))))
      ·
       refine rd_condM (j := 146) h rfl (fun g171 h => ?_) (fun g171 h => ?_)
       ·
        refine rpv 146 rfl rfl rfl g171 (rpv 146 rfl rfl rfl g171 (rpv 146 rfl rfl rfl g171 (rpv 146 rfl rfl rfl g171 (rpv 146 rfl rfl rfl g171 ?_))))
        exact rpv 146 rfl rfl rfl g171 (rd_v rfl (v_pick_t rfl g171 rfl) (hJ170 _ () h _ (ji 7 153 rfl rfl rfl)))
       ·
        refine rvt 146 rfl rfl rfl g171 (v_move rfl) (cal_inv h fun y172 hy172 h => rvt 146 rfl rfl rfl g171 (v_ix (l := q2) rfl (fun _ _ h => h) rfl sl42 hy172) (rvt 146 rfl rfl rfl g171 (v_loadI ty5 rfl) (rvt 146 rfl rfl rfl g171 (v_fi rfl GAcc.f0 fd192_0 rfl (z := (tab2 (shr8 (tab1 y99) (4 : UInt64).toNat)).lo)) ?_)))
        exact rvt 146 rfl rfl rfl g171 (v_loadI ty5 rfl) (rvt 146 rfl rfl rfl g171 (v_lss8 rfl rfl) (rd_v rfl (v_pick_f rfl g171 rfl) (hJ170 _ () h _ (ji 7 153 rfl rfl rfl))))
     ·
      refine wsr (oA rfl (rnf (w_ret (ret_block ?_))))
      refine ret_block (rL3 _ (ret_block (ret_nxt (ret_post (.tmp rfl .nil) .nil ?_))))
      obtain rfl := Option.some.inj h
      exact ⟨rfl, rfl⟩
 ·
  refine w_exit (exi_nxt (eL3 _ _ (exi_block (fin_nxt ?_))))
  refine wsr (oA rfl (rnf (w_ret (ret_post (.tmp rfl .nil) .nil ?_))))
  obtain rfl := Option.some.inj h
  exact ⟨rfl, rfl⟩


theorem r10_maker_standard_w : ∀ {a_x : GMk} {a_i : Int} {a_v : Val} {b_a_x : Nat} {v_a_x1 : Vt} {r : Val × GMk}, r10_maker_standard a_x a_i a_v = some r → Ctr Tryz.prog 175 [ptrv b_a_x (Fld.id (GMod × Vh × Int)), isv (a_i), isv (a_v)] [boxE b_a_x ((a_x.m, (Vh.mk v_a_x1 a_x.l.length), a_x.e) : (GMod × Vh × Int)), vecE v_a_x1 (a_x.l : List GTyp)] (fun R H => R = oneOf [isv (r.1)] ∧ H = [boxE b_a_x ((r.2.m, (Vh.mk v_a_x1 r.2.l.length), r.2.e)), vecE v_a_x1 (r.2.l)]) := by
 intro a_x a_i a_v b_a_x v_a_x1 r h
 unfold r10_maker_standard at h
 refine spec_intro Tryz.func175 rfl (by decide +kernel) (by rfl) fun w0 S0 hT => ?_
 refine wsr (oT (t_boxC (y := a_v) rfl (fun _ _ h => h) fun b2 => oT (t_alloc _ ze46 fun b3 => rnf (wsr ?_))))
 refine oM rfl (oV (v_nilCheck rfl) (oV (v_fa rfl pt141_0_1 fd141_1) (oT (t_loadC (R := vecv v_a_x1 (a_x.l.length)) ty24 rfl (.there (.there .here)) isvV1 (oM rfl ?_)))))
 refine asd_inv h fun q4 h => oV (v_vidx (α := GTyp) sl24 rfl rfl q4.1 q4.2) (cal_inv h fun y5 hy5 h => oT (t_vload ty87 rfl (.there (.there (.there .here))) hy5 (oT (t_alloc _ ze87 fun b6 => ?_))))
 refine oT (t_storeC (y' := (y5 : GTyp)) ty87 rfl rfl (fun _ _ h => h) .here rfl (rl_upd (upd_imm 7 .here rfl) (rnf (wsr (oV (v_fa rfl Val.f0 fd46_0) ?_)))))
 refine oT (t_loadC (R := isv (a_v.kind)) ty3 rfl (.there .here) (fun _ _ h => h) (oV (v_fi rfl GTyp.f0 fd87_0 rfl (z := y5.kind)) (oV (v_loadI ty3 rfl) (oV (v_eql rfl rfl) (oA rfl ?_)))))
 refine rnf (w_seq (wsr (oV (v_fi rfl GTyp.f0 fd87_0 rfl (z := y5.kind)) (oV (v_loadI ty3 rfl) ?_))))
 refine rnf (w_J (ι := Bool × Val) (γ := Unit) (fun q7 g7 => [(5, ptrv b2 (Fld.id Val)), (8, isv (q7.1))]) (fun q7 g7 => [boxE b2 (q7.2 : Val)]) (.cons (.there .here) .nil) h (fun q7 g7 h => ?_) (fun J8 h hJ8 => ?_))
 ·
  refine w_seq (wsr (oM rfl (oV (v_not rfl) (rnf ?_))))
  refine w_J (ι := GMk) (γ := Unit) (fun q51 g51 => []) (fun q51 g51 => [boxE b_a_x ((q51.m, (Vh.mk v_a_x1 q51.l.length), q51.e) : (GMod × Vh × Int)), vecE v_a_x1 (q51.l : List GTyp)]) (.cons (.there (.there .here)) (.cons (.there (.there .here)) .nil)) h (fun q51 g51 h => ?_) (fun J52 h hJ52 => ?_)
  ·
   refine wsr (oT (t_loadC (R := isv (q7.2)) ty46 rfl (.there (.there .here)) (fun _ _ h => h) (oT (t_storeC (y' := (q7.2 : Val)) ty46 rfl rfl (fun _ _ h => h) (.there (.there (.there .here))) rfl (rnf (w_ret ?_))))))
   refine ret_post (.cell rfl .here ty46 .nil) (.cons (.there .here) (.cons (.there .here) .nil)) ?_
   obtain rfl := Option.some.inj h
   exact ⟨rfl, rfl⟩
  ·
   refine w_condM h rfl (fun _ h => ?_) (fun _ h => ?_)
   ·
    refine w_region (oM rfl (cal_inv h fun y53 hy53 h => oT (t_call (r10_maker_fail_w hy53) hT (.same rfl (.same rfl .nil)) (.cons (.there (.there .here)) (.cons (.there (.there .here)) .nil)) (fun R H' hR => ?_))))
    obtain ⟨rfl, rfl⟩ := hR
    exact rl_nil (hJ52 _ () h _ (join_imp 2 rfl rfl mod_nil (.cons .here (.cons .here (.cons .here (.cons .here .nil))))))
   ·
    exact w_skip (hJ52 _ () h _ (join_imp 0 rfl rfl mod_nil (.cons (.there (.there .here)) (.cons (.there (.there .here)) (.cons .here (.cons .here .nil))))))
 ·
  refine w_block (w_seq (wsr (oV (v_eql rfl rfl) (oA rfl ?_))))
  refine rnf (w_J (jb 24) je .nil h (fun q9 g9 h => ?_) (fun J10 h hJ10 => ?_))
  ·
   refine w_condM h rfl (fun _ h => ?_) (fun _ h => ?_)
   ·
    exact w_skip (fin_block (hJ8 _ () h _ (join_imp 3 rfl rfl (mod_cons (j := 5) rfl (fun _ _ h => h) (mod_cons (j := 8) rfl (fun _ _ h => h) mod_nil)) (.cons (.there .here) (.cons .here (.cons .here (.cons .here .nil)))))))
   ·
    refine wsr (oV (v_eql rfl rfl) (oA rfl (rnf (w_condM h rfl (fun _ h => ?_) (fun _ h => ?_)))))
    ·
     refine w_region (oM rfl (oM rfl (rl_j (jb 36) je .nil h 6 rfl (fun q11 g11 h => ?_) (fun J12 h hJ12 => ?_))))
     ·
      exact oA rfl (rl_nil (fin_block (hJ8 _ () h _ (join_imp 9 rfl rfl (mod_cons (j := 5) rfl (fun _ _ h => h) (mod_cons (j := 8) rfl (fun _ _ h => h) mod_nil)) (.cons (.there .here) (.cons .here (.cons .here (.cons .here .nil))))))))
     ·
      refine rl_condM (j := 30) h rfl (fun g13 h => ?_) (fun g13 h => ?_)
      ·
       refine oK 30 rfl rfl rfl g13 (v_fi rfl GTyp.f2 fd87_2 rfl (z := y5.con)) (oK 30 rfl rfl rfl g13 (v_loadI ty83 rfl) (oK 30 rfl rfl rfl g13 (v_fa rfl Val.f1 fd46_1) (op_take rfl rfl (dj := 30) rfl g13 (t_loadC (R := isv (a_v.n)) ty2 rfl (.there .here) (fun _ _ h => h) (cal_inv h fun y14 hy14 h => ?_)))))
       refine op_take rfl rfl (dj := 30) rfl g13 (t_call (r08_Within_w hy14) hT (.same rfl (.same rfl .nil)) .nil (fun R H' hR => ?_))
       obtain ⟨rfl, rfl⟩ := hR
       exact oV (v_pick_t rfl g13 rfl) (hJ12 _ () h _ (join_imp 6 rfl rfl (mod_cons (j := 36) rfl (fun _ _ h => h) mod_nil) (.cons .here (.cons .here (.cons .here (.cons .here .nil))))))
      ·
       refine oP 30 rfl rfl g13 (oP 30 rfl rfl g13 (oP 30 rfl rfl g13 (oP 30 rfl rfl g13 (oP 30 rfl rfl g13 ?_))))
       exact oV (v_pick_f rfl g13 rfl) (hJ12 _ () h _ (join_imp 6 rfl rfl (mod_cons (j := 36) rfl (fun _ _ h => h) mod_nil) (.cons .here (.cons .here (.cons .here (.cons .here .nil))))))
    ·
     refine w_seq (wsr (oV (v_eql rfl rfl) (oA rfl (rnf ?_))))
     refine w_J (jb 37) je .nil h (fun q15 g15 h => ?_) (fun J16 h hJ16 => ?_)
     ·
      refine w_condM h rfl (fun _ h => ?_) (fun _ h => ?_)
      ·
       refine w_region (oM rfl (oM rfl (rl_j (jb 48) je .nil h 7 rfl (fun q17 g17 h => ?_) (fun J18 h hJ18 => ?_))))
       ·
        refine oM rfl (rl_j (jb 58) je .nil h 9 rfl (fun q21 g21 h => ?_) (fun J22 h hJ22 => ?_))
        ·
         exact oA rfl (rl_nil (fin_block (hJ8 _ () h _ (join_imp 14 rfl rfl (mod_cons (j := 5) rfl (fun _ _ h => h) (mod_cons (j := 8) rfl (fun _ _ h => h) mod_nil)) (.cons (.there .here) (.cons .here (.cons .here (.cons .here .nil))))))))
        ·
         refine rl_condM (j := 49) h rfl (fun g23 h => ?_) (fun g23 h => ?_)
         ·
          refine oK 49 rfl rfl rfl g23 (v_fi rfl GTyp.f0 fd87_0 rfl (z := y5.kind)) (oK 49 rfl rfl rfl g23 (v_loadI ty3 rfl) (oK 49 rfl rfl rfl g23 (v_eql rfl rfl) (oK 49 rfl rfl rfl g23 (v_move rfl) (rl_j (jb 57) je .nil h 4 rfl (fun q24 g24 h => ?_) (fun J25 h hJ25 => ?_)))))
          ·
           exact oV (v_pick_t rfl g23 rfl) (hJ22 _ () h _ (join_imp 6 rfl rfl (mod_cons (j := 58) rfl (fun _ _ h => h) mod_nil) (.cons .here (.cons .here (.cons .here (.cons .here .nil))))))
          ·
           refine rl_condM (j := 53) h rfl (fun g26 h => ?_) (fun g26 h => ?_)
           ·
            exact oP 53 rfl rfl g26 (oP 53 rfl rfl g26 (oP 53 rfl rfl g26 (oK 49 rfl rfl rfl g23 (v_pick_t rfl g26 rfl) (hJ25 _ () h _ (join_imp 4 rfl rfl (mod_cons (j := 57) rfl (fun _ _ h => h) mod_nil) (.cons .here (.cons .here (.cons .here (.cons .here .nil)))))))))
           ·
            refine oK 53 rfl rfl rfl g26 (v_fa rfl Val.f2 fd46_2) (op_take rfl rfl (dj := 53) rfl g26 (t_loadC (R := isv (a_v.b)) ty42 rfl (.there .here) (fun _ _ h => h) (cal_inv h fun y27 hy27 h => op_take rfl rfl (dj := 53) rfl g26 (t_call (utf8_Valid_w hy27) hT (.same rfl .nil) .nil (fun R H' hR => ?_)))))
            obtain ⟨rfl, rfl⟩ := hR
            exact oK 49 rfl rfl rfl g23 (v_pick_f rfl g26 rfl) (hJ25 _ () h _ (join_imp 4 rfl rfl (mod_cons (j := 57) rfl (fun _ _ h => h) mod_nil) (.cons .here (.cons .here (.cons .here (.cons .here .nil))))))
         ·
          refine oP 49 rfl rfl g23 (oP 49 rfl rfl g23 (oP 49 rfl rfl g23 (oP 49 rfl rfl g23 (op_passU rfl (dj := 53) rfl ?_))))
          exact op_passU rfl (dj := 53) rfl (op_passU rfl (dj := 53) rfl (oP 49 rfl rfl g23 (oV (v_pick_f rfl g23 rfl) (hJ22 _ () h _ (join_imp 9 rfl rfl (mod_cons (j := 58) rfl (fun _ _ h => h) mod_nil) (.cons .here (.cons .here (.cons .here (.cons .here .nil)))))))))
       ·
        refine rl_condM (j := 41) h rfl (fun g19 h => ?_) (fun g19 h => ?_)
        ·
         refine oK 41 rfl rfl rfl g19 (v_fi rfl GTyp.f2 fd87_2 rfl (z := y5.con)) (oK 41 rfl rfl rfl g19 (v_loadI ty83 rfl) (oK 41 rfl rfl rfl g19 (v_fa rfl Val.f2 fd46_2) (op_take rfl rfl (dj := 41) rfl g19 (t_loadC (R := isv (a_v.b)) ty42 rfl (.there .here) (fun _ _ h => h) (oK 41 rfl rfl rfl g19 (v_ln (l := a_v.b) rfl (fun _ _ h => h) sl42) ?_)))))
         refine cal_inv h fun y20 hy20 h => op_take rfl rfl (dj := 41) rfl g19 (t_call (r08_Within_w hy20) hT (.same rfl (.same rfl .nil)) .nil (fun R H' hR => ?_))
         obtain ⟨rfl, rfl⟩ := hR
         exact oV (v_pick_t rfl g19 rfl) (hJ18 _ () h _ (join_imp 7 rfl rfl (mod_cons (j := 48) rfl (fun _ _ h => h) mod_nil) (.cons .here (.cons .here (.cons .here (.cons .here .nil))))))
        ·
         refine oP 41 rfl rfl g19 (oP 41 rfl rfl g19 (oP 41 rfl rfl g19 (oP 41 rfl rfl g19 (oP 41 rfl rfl g19 ?_))))
         exact oP 41 rfl rfl g19 (oV (v_pick_f rfl g19 rfl) (hJ18 _ () h _ (join_imp 7 rfl rfl (mod_cons (j := 48) rfl (fun _ _ h => h) mod_nil) (.cons .here (.cons .here (.cons .here (.cons .here .nil)))))))
      ·
       refine wsr (oV (v_eql rfl rfl) (oA rfl (rnf (w_condM h rfl (fun _ h => ?_) (fun _ h => ?_)))))
       ·
        refine wsr (oM rfl (rnf (w_condM h rfl (fun _ h => ?_) (fun _ h => ?_))))
        ·
         refine wsr (oA rfl (rnf (wsr (oA rfl ?_))))
         refine rnf (w_block (w_lp (ι := Bool × Int × Val) (γ := Unit) (fun q28 g28 => [(5, ptrv b2 (Fld.id Val)), (8, isv (q28.1)), (9, isv (q28.2.1))]) (fun q28 g28 => [boxE b2 (q28.2.2 : Val)]) h () (mod_cons (j := 5) rfl (fun _ _ h => h) (mod_cons (j := 8) rfl (fun _ _ h => h) (mod_cons (j := 9) rfl (fun _ _ h => h) mod_nil))) (.cons (.there .here) .nil) (fun L29 q28 g28 Q50 h hL29 eL29 rL29 => w_seq (wsr ?_))))
         refine oM rfl (oV (v_fi rfl GTyp.f5 fd87_5 rfl (z := y5.root)) (oV (v_loadI ty3 rfl) (oV (v_lss rfl rfl) (oM rfl ?_))))
         refine rl_j (jb 69) je .nil h 3 rfl (fun q40 g40 h => ?_) (fun J41 h hJ41 => ?_)
         ·
          refine rnf (w_condM h rfl (fun _ h => ?_) (fun _ h => ?_))
          ·
           refine wkf (w_seq (w_J (ι := Bool × Val) (γ := Unit) (fun q43 g43 => [(5, ptrv b2 (Fld.id Val)), (8, isv (q43.1))]) (fun q43 g43 => [boxE b2 (q43.2 : Val)]) (.cons .here .nil) h (fun q43 g43 h => ?_) (fun J44 h hJ44 => ?_)))
           ·
            refine w_region (oM rfl (ck_inv h fun q49 h => oV (v_add rfl rfl q49) (oA rfl ?_)))
            exact rl_nil (hL29 _ () h _ (join_imp 14 rfl rfl (mod_cons (j := 5) rfl (fun _ _ h => h) (mod_cons (j := 8) rfl (fun _ _ h => h) (mod_cons (j := 9) rfl (fun _ _ h => h) mod_nil))) (.cons .here (.cons .here (.cons .here (.cons .here .nil))))))
           ·
            refine w_block (w_seq (w_pinN 5 .here rfl (fun o45 hn46 => w_regionD (.v 0 (.v 1 (.v 2 (.v 3 (.v 4 (.v 5 (.v 6 (.v 7 (.v 8 (.v 9 .nil)))))))))) moOrd (by kernel_rfl) ?_)))
            refine rd_v rfl (v_fi rfl GTyp.f3 fd87_3 rfl (z := y5.items)) (rd_v rfl (v_loadI ty84 rfl) (rvm rfl rfl (cal_inv h fun y47 hy47 h => rd_v rfl (v_ix (l := y5.items) rfl (fun _ _ h => h) rfl sl84 hy47) ?_)))
            refine rd_v rfl (v_fi rfl GItem.f0 fd97_0 rfl (z := y47.name)) (rd_v rfl (v_loadI ty9 rfl) (rd_v rfl (v_fp rfl Val.f2 fd46_2) (rd_v rfl (v_lpC (R := isv (q28.2.2.b)) ty42 rfl (List.Mem.head _) (fun _ _ h => h)) (rd_v rfl (v_bs (l := q28.2.2.b) Tryz.underlying42 Tryz.underlying5 Tryz.underlying9 rfl (fun _ _ h => h)) ?_))))
            refine rd_v rfl (v_eqA eq9 rfl rfl) (rd_nil (fin_unpinN 5 hn46 rfl (fin_nxt (w_condM h rfl (fun _ h => ?_) (fun _ h => ?_)))))
            ·
             refine w_region (oV (v_fi rfl GTyp.f3 fd87_3 rfl (z := y5.items)) (oV (v_loadI ty84 rfl) (oM rfl (cal_inv h fun y48 hy48 h => ?_))))
             refine oV (v_ix (l := y5.items) rfl (fun _ _ h => h) rfl sl84 hy48) (oV (v_fi rfl GItem.f1 fd97_1 rfl (z := y48.number)) (oV (v_loadI ty2 rfl) (oV (v_build (z := (Val.mk (3 : Int) y48.number ([] : (List UInt8)) ([] : (List Val)) (0 : Int) ([] : (List Raw)))) rfl bu46 ze46 (.cons Val.f0 fd46_0 rfl (fun _ _ h => h) (.cons Val.f1 fd46_1 rfl (fun _ _ h => h) .nil))) (oT (t_storeC (y' := ((Val.mk (3 : Int) y48.number ([] : (List UInt8)) ([] : (List Val)) (0 : Int) ([] : (List Raw))) : Val)) ty46 rfl rfl (fun _ _ h => h) .here rfl ?_)))))
             exact oA rfl (rl_nil (fin_block (hJ44 _ () h _ (join_imp 20 rfl rfl (mod_cons (j := 5) rfl (fun _ _ h => h) (mod_cons (j := 8) rfl (fun _ _ h => h) mod_nil)) (.cons .here (.cons .here (.cons .here (.cons .here .nil))))))))
            ·
             exact w_skip (fin_block (hJ44 _ () h _ (join_imp 12 rfl rfl (mod_cons (j := 5) rfl (fun _ _ h => h) (mod_cons (j := 8) rfl (fun _ _ h => h) mod_nil)) (.cons .here (.cons .here (.cons .here (.cons .here .nil)))))))
          ·
           refine w_exit (exi_nxt (eL29 _ _ (exi_block (fin_block ?_))))
           exact hJ8 _ () h _ (join_imp 22 rfl rfl (mod_cons (j := 5) rfl (fun _ _ h => h) (mod_cons (j := 8) rfl (fun _ _ h => h) mod_nil)) (.cons .here (.cons .here (.cons .here (.cons .here .nil)))))
         ·
          refine rl_condM (j := 66) h rfl (fun g42 h => ?_) (fun g42 h => ?_)
          ·
           exact oK 66 rfl rfl rfl g42 (v_move rfl) (oK 66 rfl rfl rfl g42 (v_not rfl) (oV (v_pick_t rfl g42 rfl) (hJ41 _ () h _ (join_imp 3 rfl rfl (mod_cons (j := 69) rfl (fun _ _ h => h) mod_nil) (.cons .here (.cons .here (.cons .here (.cons .here .nil))))))))
          ·
           exact oP 66 rfl rfl g42 (oP 66 rfl rfl g42 (oV (v_pick_f rfl g42 rfl) (hJ41 _ () h _ (join_imp 3 rfl rfl (mod_cons (j := 69) rfl (fun _ _ h => h) mod_nil) (.cons .here (.cons .here (.cons .here (.cons .here .nil))))))))
        ·
         exact w_skip (fin_block (hJ8 _ () h _ (join_imp 11 rfl rfl (mod_cons (j := 5) rfl (fun _ _ h => h) (mod_cons (j := 8) rfl (fun _ _ h => h) mod_nil)) (.cons (.there .here) (.cons .here (.cons .here (.cons .here .nil)))))))
       ·
        exact w_region (oA rfl (rl_nil (fin_block (hJ8 _ () h _ (join_imp 11 rfl rfl (mod_cons (j := 5) rfl (fun _ _ h => h) (mod_cons (j := 8) rfl (fun _ _ h => h) mod_nil)) (.cons (.there .here) (.cons .here (.cons .here (.cons .here .nil)))))))))
     ·
      refine w_condM h rfl (fun _ h => ?_) (fun _ h => ?_)
      ·
       exact w_skip (hJ16 _ () h _ (join_imp 0 rfl rfl (mod_cons (j := 37) rfl (fun _ _ h => h) mod_nil) (.cons .here (.cons .here (.cons .here (.cons .here .nil))))))
      ·
       exact w_region (oV (v_eql rfl rfl) (oA rfl (rl_nil (hJ16 _ () h _ (join_imp 2 rfl rfl (mod_cons (j := 37) rfl (fun _ _ h => h) mod_nil) (.cons .here (.cons .here (.cons .here (.cons .here .nil)))))))))
  ·
   refine w_condM h rfl (fun _ h => ?_) (fun _ h => ?_)
   ·
    exact w_skip (hJ10 _ () h _ (join_imp 0 rfl rfl (mod_cons (j := 24) rfl (fun _ _ h => h) mod_nil) (.cons .here (.cons .here (.cons .here (.cons .here .nil))))))
   ·
    exact w_region (oV (v_eql rfl rfl) (oA rfl (rl_nil (hJ10 _ () h _ (join_imp 2 rfl rfl (mod_cons (j := 24) rfl (fun _ _ h => h) mod_nil) (.cons .here (.cons .here (.cons .here (.cons .here .nil)))))))))


theorem r10_maker_soft_w : ∀ {a_x : GMk} {a_i : Int} {b_a_x : Nat} {v_a_x1 : Vt} {r : Int × GMk}, r10_maker_soft a_x a_i = some r → Ctr Tryz.prog 114 [ptrv b_a_x (Fld.id (GMod × Vh × Int)), isv (a_i)] [boxE b_a_x ((a_x.m, (Vh.mk v_a_x1 a_x.l.length), a_x.e) : (GMod × Vh × Int)), vecE v_a_x1 (a_x.l : List GTyp)] (fun R H => R = oneOf [isv (r.1)] ∧ H = [boxE b_a_x ((r.2.m, (Vh.mk v_a_x1 r.2.l.length), r.2.e)), vecE v_a_x1 (r.2.l)]) := by
 intro a_x a_i b_a_x v_a_x1 r h
 unfold r10_maker_soft at h
 refine spec_intro Tryz.func114 rfl (by decide +kernel) (by rfl) fun w0 S0 hT => ?_
 refine wsr (oA rfl (rnf (w_seq (wsr ?_))))
 refine oM rfl (oV (v_nilCheck rfl) (oV (v_fa rfl pt141_0_1 fd141_1) (oT (t_loadC (R := vecv v_a_x1 (a_x.l.length)) ty24 rfl .here isvV1 (oM rfl ?_)))))
 refine asd_inv h fun q2 h => oV (v_vidx (α := GTyp) sl24 rfl rfl q2.1 q2.2) (oV (v_fv rfl GTyp.f1 fd87_1) (cal_inv h fun y3 hy3 h => oT (t_vload ty78 rfl (.there .here) hy3 ?_)))
 refine oV (v_ln (l := y3.tags) rfl (fun _ _ h => h) sl78) (oV (v_gtr rfl rfl) (rnf (w_condM h rfl (fun _ h => ?_) (fun _ h => ?_))))
 ·
  refine wsr (oA rfl (rnf (w_ret (ret_nxt ?_))))
  refine ret_post (.tmp rfl .nil) (.cons .here (.cons .here .nil)) ?_
  obtain rfl := Option.some.inj h
  exact ⟨rfl, rfl⟩
 ·
  refine wkf (wsr (oA rfl (rnf (w_ret ?_))))
  refine ret_post (.tmp rfl .nil) (.cons .here (.cons .here .nil)) ?_
  obtain rfl := Option.some.inj h
  exact ⟨rfl, rfl⟩

end Go.Proofs.YtnnijoepfgnlfaaGreatDoor

