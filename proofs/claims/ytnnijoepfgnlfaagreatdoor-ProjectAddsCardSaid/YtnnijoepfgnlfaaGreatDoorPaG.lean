/- Walks, printed by mill.py. -/
import Derived.Test.YtnnijoepfgnlfaaGreatDoorPaA
import Derived.Test.YtnnijoepfgnlfaaGreatDoorPaB
import Derived.Test.YtnnijoepfgnlfaaGreatDoorPaC
import Derived.Test.YtnnijoepfgnlfaaGreatDoorPaD
import Derived.Test.YtnnijoepfgnlfaaGreatDoorPaE
import Derived.Test.YtnnijoepfgnlfaaGreatDoorPaF
set_option linter.unusedVariables false
set_option linter.unusedSimpArgs false

namespace Go.Proofs.YtnnijoepfgnlfaaGreatDoor
open Go.Sy
set_option maxRecDepth 4000
theorem law14_version_w : ∀ {a_n_ : Int} {r : Str}, law14_version a_n_ = some r → Ctr Tryz.prog 38 [isv (a_n_)] [] (fun R H => R = oneOf [isv (r)] ∧ H = []) := by
 intro a_n_ r h
 unfold law14_version at h
 refine spec_intro Tryz.func38 rfl (by decide +kernel) (by rfl) fun w0 S0 hT => ?_
 refine wsr (oA rfl (rnf (wsr (oA rfl ?_))))
 refine oA rfl (oA rfl (rnf (w_seq (wsr ?_))))
 refine oA rfl (rnf (w_block (w_lp (ι := Str × Str × Str × Int) (γ := Unit) (fun q1 g1 => [(3, isv (q1.1)), (4, isv (q1.2.1)), (5, isv (q1.2.2.1)), (6, isv (q1.2.2.2))]) (fun q1 g1 => []) h () (mod_cons (j := 3) rfl (fun _ _ h => h) (mod_cons (j := 4) rfl (fun _ _ h => h) (mod_cons (j := 5) rfl (fun _ _ h => h) (mod_cons (j := 6) rfl (fun _ _ h => h) mod_nil)))) .nil (fun L2 q1 g1 Q45 h hL2 eL2 rL2 => w_seq ?_))))
 refine wsr (oM rfl (oM rfl (oV (v_lss rfl rfl) (rnf ?_))))
 refine w_condM h rfl (fun _ h => ?_) (fun _ h => ?_)
 ·
  refine wkf (w_seq (w_block (wsr (oM rfl ?_))))
  refine ck_inv h fun q24 h => oV (v_add rfl rfl q24) (oV (v_toU Tryz.underlying3 Tryz.underlying41 rfl) (cal_inv h fun y25 hy25 h => oT (t_call (h_Digits_w fuel hy25) hT (.same rfl .nil) .nil (fun R H' hR => ?_))))
  obtain ⟨rfl, rfl⟩ := hR
  refine oA rfl (rnf (wsr (oM rfl (asr_inv h fun q26 h => ?_))))
  refine oV (v_cat rfl rfl q26) (oM rfl (asr_inv h fun q27 h => oV (v_cat rfl rfl q27) (asr_inv h fun q28 h => ?_)))
  refine oV (v_cat rfl rfl q28) (oM rfl (asr_inv h fun q29 h => oV (v_cat rfl rfl q29) (asr_inv h fun q30 h => ?_)))
  refine oV (v_cat rfl rfl q30) (oA rfl (rnf (wsr (oM rfl ?_))))
  refine asr_inv h fun q31 h => oV (v_cat rfl rfl q31) (oM rfl (asr_inv h fun q32 h => oV (v_cat rfl rfl q32) ?_))
  refine asr_inv h fun q33 h => oV (v_cat rfl rfl q33) (oM rfl (asr_inv h fun q34 h => oV (v_cat rfl rfl q34) ?_))
  refine asr_inv h fun q35 h => oV (v_cat rfl rfl q35) (oA rfl (rnf (w_region ?_)))
  refine oM rfl (asr_inv h fun q36 h => oV (v_cat rfl rfl q36) (oM rfl (asr_inv h fun q37 h => ?_)))
  refine oV (v_cat rfl rfl q37) (oA rfl (rl_nil (fin_block (fin_nxt ?_))))
  refine w_region (oM rfl (ck_inv h fun q38 h => oV (v_add rfl rfl q38) (oA rfl ?_)))
  exact rl_nil (hL2 _ () h _ (join_imp 38 rfl rfl (mod_cons (j := 3) rfl (fun _ _ h => h) (mod_cons (j := 4) rfl (fun _ _ h => h) (mod_cons (j := 5) rfl (fun _ _ h => h) (mod_cons (j := 6) rfl (fun _ _ h => h) mod_nil)))) .nil))
 ·
  refine w_exit (exi_nxt (eL2 _ _ (exi_block (fin_nxt ?_))))
  refine wsr (oM rfl (asr_inv h fun q39 h => oV (v_cat rfl rfl q39) (asr_inv h fun q40 h => ?_)))
  refine oV (v_cat rfl rfl q40) (oM rfl (asr_inv h fun q41 h => oV (v_cat rfl rfl q41) (asr_inv h fun q42 h => ?_)))
  refine oV (v_cat rfl rfl q42) (oM rfl (asr_inv h fun q43 h => oV (v_cat rfl rfl q43) (asr_inv h fun q44 h => ?_)))
  refine oV (v_cat rfl rfl q44) (oA rfl (rnf (w_ret (ret_post (.tmp rfl .nil) .nil ?_))))
  obtain rfl := Option.some.inj h
  exact ⟨rfl, rfl⟩


theorem law14_ProjectAdds_w : ∀ {a_from_ : Int} {a_to : Int} {a_which : Int} {a_there : (List Bool)} {r : Bool}, law14_ProjectAdds a_from_ a_to a_which a_there = some r → Ctr Tryz.prog 10 [isv (a_from_), isv (a_to), isv (a_which), isv (a_there)] [] (fun R H => R = oneOf [isv (r)] ∧ H = []) := by
 intro a_from_ a_to a_which a_there r h
 unfold law14_ProjectAdds at h
 refine spec_intro Tryz.func10 rfl (by decide +kernel) (by rfl) fun w0 S0 hT => ?_
 refine wsr (oA rfl (rnf (wsr (oM rfl ?_))))
 refine oV (v_toU Tryz.underlying3 Tryz.underlying39 rfl) (asr_inv h fun q1 h => oV (v_rem64 rfl rfl q1) (ck_inv h fun q2 h => oV (v_u64i Tryz.underlying39 Tryz.underlying3 rfl q2) ?_))
 refine oM rfl (oV (v_toU Tryz.underlying3 Tryz.underlying39 rfl) (asr_inv h fun q3 h => oV (v_rem64 rfl rfl q3) (ck_inv h fun q4 h => ?_)))
 refine oV (v_u64i Tryz.underlying39 Tryz.underlying3 rfl q4) (oA rfl (oA rfl (rnf (wsr ?_))))
 refine oM rfl (cal_inv h fun y5 hy5 h => oT (t_call (law14_version_w hy5) hT (.same rfl .nil) .nil (fun R H' hR => ?_)))
 obtain ⟨rfl, rfl⟩ := hR
 refine cal_inv h fun y6 hy6 h => oT (t_call (oghamplay_Table_w hy6) hT (.same rfl .nil) .nil (fun R H' hR => ?_))
 obtain ⟨rfl, rfl⟩ := hR
 refine oM rfl (oV (v_extract rfl rfl) (oV (v_extract rfl rfl) (oT (t_alloc _ ze26 fun b7 => oT (t_storeC (y' := (y6.1 : GTab)) ty26 rfl rfl (fun _ _ h => h) .here rfl ?_)))))
 refine rl_upd (upd_imm 9 .here rfl) (oA rfl (rnf (wsr (oM rfl ?_))))
 refine cal_inv h fun y8 hy8 h => oT (t_call (law14_version_w hy8) hT (.same rfl .nil) .nil (fun R H' hR => ?_))
 obtain ⟨rfl, rfl⟩ := hR
 refine cal_inv h fun y9 hy9 h => oT (t_call (oghamplay_Table_w hy9) hT (.same rfl .nil) .nil (fun R H' hR => ?_))
 obtain ⟨rfl, rfl⟩ := hR
 refine oM rfl (oV (v_extract rfl rfl) (oV (v_extract rfl rfl) (oT (t_alloc _ ze26 fun b10 => oT (t_storeC (y' := (y9.1 : GTab)) ty26 rfl rfl (fun _ _ h => h) .here rfl ?_)))))
 refine rl_upd (upd_imm 11 .here rfl) (oA rfl (rnf (w_seq (wsr ?_))))
 refine oM rfl (oV (v_not rfl) (oM rfl (rl_j (jb 51) je .nil h 3 rfl (fun q11 g11 h => ?_) (fun J12 h hJ12 => ?_))))
 ·
  refine rnf (w_condM h rfl (fun _ h => ?_) (fun _ h => ?_))
  ·
   refine wsr (oA rfl (rnf (w_ret (ret_nxt ?_))))
   refine ret_post (.tmp rfl .nil) .nil ?_
   obtain rfl := Option.some.inj h
   exact ⟨rfl, rfl⟩
  ·
   refine wkf (wsr (oV (v_build (z := (Val.mk (2 : Int) (50 : Int) ([] : (List UInt8)) ([] : (List Val)) (0 : Int) ([] : (List Raw)))) rfl bu46 ze46 (.cons Val.f0 fd46_0 rfl (fun _ _ h => h) (.cons Val.f1 fd46_1 rfl (fun _ _ h => h) .nil))) (oT (t_buildSlice (l := ([(Val.mk (2 : Int) (50 : Int) ([] : (List UInt8)) ([] : (List Val)) (0 : Int) ([] : (List Raw)))] : (List Val))) el43 (.cons rfl (fun _ _ h => h) .nil) rfl rfl ?_))))
   refine oV (v_build (z := (((7 : Int), (0 : Int), ([] : (List UInt8)), (TList.mk none ([(Val.mk (2 : Int) (50 : Int) ([] : (List UInt8)) ([] : (List Val)) (0 : Int) ([] : (List Raw)))] : (List Val))), (0 : Int), ([] : (List Raw))) : (Int × Int × (List UInt8) × (TList Val) × Int × (List Raw)))) rfl bu46 zt46_5 (.cons pt46_0_0 fd46_0 rfl (fun _ _ h => h) (.cons pt46_0_3 fd46_3 rfl isvT2 .nil))) (oT (t_alloc _ zt46_5 fun b15 => rl_upd (upd_tok) (rl_upd (upd_tok) ?_)))
   refine oT (t_storeC (y' := (((7 : Int), (0 : Int), ([] : (List UInt8)), (TList.mk none ([(Val.mk (2 : Int) (50 : Int) ([] : (List UInt8)) ([] : (List Val)) (0 : Int) ([] : (List Raw)))] : (List Val))), (0 : Int), ([] : (List Raw))) : (Int × Int × (List UInt8) × (TList Val) × Int × (List Raw)))) ty46 rfl rfl (fun _ _ h => h) (.there (.there .here)) rfl (rnf (wsr (oV (v_build (z := (Val.mk (2 : Int) (50 : Int) ([] : (List UInt8)) ([] : (List Val)) (0 : Int) ([] : (List Raw)))) rfl bu46 ze46 (.cons Val.f0 fd46_0 rfl (fun _ _ h => h) (.cons Val.f1 fd46_1 rfl (fun _ _ h => h) .nil))) ?_))))
   refine oT (t_buildSlice (l := ([(Val.mk (2 : Int) (50 : Int) ([] : (List UInt8)) ([] : (List Val)) (0 : Int) ([] : (List Raw)))] : (List Val))) el43 (.cons rfl (fun _ _ h => h) .nil) rfl rfl (oV (v_build (z := (((7 : Int), (0 : Int), ([] : (List UInt8)), (TList.mk none ([(Val.mk (2 : Int) (50 : Int) ([] : (List UInt8)) ([] : (List Val)) (0 : Int) ([] : (List Raw)))] : (List Val))), (0 : Int), ([] : (List Raw))) : (Int × Int × (List UInt8) × (TList Val) × Int × (List Raw)))) rfl bu46 zt46_5 (.cons pt46_0_0 fd46_0 rfl (fun _ _ h => h) (.cons pt46_0_3 fd46_3 rfl isvT2 .nil))) (oT (t_alloc _ zt46_5 fun b19 => rl_upd (upd_tok) (rl_upd (upd_tok) ?_)))))
   refine oT (t_storeC (y' := (((7 : Int), (0 : Int), ([] : (List UInt8)), (TList.mk none ([(Val.mk (2 : Int) (50 : Int) ([] : (List UInt8)) ([] : (List Val)) (0 : Int) ([] : (List Raw)))] : (List Val))), (0 : Int), ([] : (List Raw))) : (Int × Int × (List UInt8) × (TList Val) × Int × (List Raw)))) ty46 rfl rfl (fun _ _ h => h) (.there (.there .here)) rfl (rnf (w_seq (wsr (oA rfl ?_)))))
   refine rnf (w_block (w_lp (ι := Int × Val × Val) (γ := Tok × Tok) (fun q22 g22 => [(15, isv (q22.1))]) (fun q22 g22 => [boxE b19 ((q22.2.1.kind, q22.2.1.n, q22.2.1.b, (TList.mk g22.1 q22.2.1.l), q22.2.1.rule, q22.2.1.more) : (Int × Int × (List UInt8) × (TList Val) × Int × (List Raw))), tokE g22.1, boxE b15 ((q22.2.2.kind, q22.2.2.n, q22.2.2.b, (TList.mk g22.2 q22.2.2.l), q22.2.2.rule, q22.2.2.more) : (Int × Int × (List UInt8) × (TList Val) × Int × (List Raw))), tokE g22.2]) h (none, none) (mod_cons (j := 15) rfl (fun _ _ h => h) mod_nil) (.cons .here (.cons .here (.cons (.there .here) (.cons (.there .here) .nil)))) (fun L23 q22 g22 Q180 h hL23 eL23 rL23 => w_seq (wsr ?_))))
   refine oM rfl (oM rfl (oM rfl (oV (v_max rfl rfl) (oV (v_lss rfl rfl) ?_))))
   refine rnf (w_condM h rfl (fun _ h => ?_) (fun _ h => ?_))
   ·
    refine wkf (w_seq (w_J (ι := Val × Val) (γ := Tok × Tok) (fun q102 g102 => []) (fun q102 g102 => [boxE b19 ((q102.1.kind, q102.1.n, q102.1.b, (TList.mk g102.1 q102.1.l), q102.1.rule, q102.1.more) : (Int × Int × (List UInt8) × (TList Val) × Int × (List Raw))), tokE g102.1, boxE b15 ((q102.2.kind, q102.2.n, q102.2.b, (TList.mk g102.2 q102.2.l), q102.2.rule, q102.2.more) : (Int × Int × (List UInt8) × (TList Val) × Int × (List Raw))), tokE g102.2]) (.cons .here (.cons (.there .here) (.cons .here (.cons .here .nil)))) h (fun q102 g102 h => ?_) (fun J103 h hJ103 => ?_)))
    ·
     refine w_region (oM rfl (ck_inv h fun q122 h => oV (v_add rfl rfl q122) (oA rfl ?_)))
     exact rl_nil (hL23 _ (g102.1, g102.2) h _ (join_imp 9 rfl rfl (mod_cons (j := 15) rfl (fun _ _ h => h) mod_nil) (.cons .here (.cons .here (.cons .here (.cons .here (.cons .here (.cons .here .nil))))))))
    ·
     refine w_block (wsr (oV (v_build (z := (Val.mk (0 : Int) (0 : Int) ([] : (List UInt8)) ([] : (List Val)) (0 : Int) ([] : (List Raw)))) rfl bu46 ze46 .nil) (oT (t_alloc _ ze46 fun b104 => oT (t_storeC (y' := ((Val.mk (0 : Int) (0 : Int) ([] : (List UInt8)) ([] : (List Val)) (0 : Int) ([] : (List Raw))) : Val)) ty46 rfl rfl (fun _ _ h => h) .here rfl ?_)))))
     refine rnf (w_seq (wsr (oM rfl (oM rfl ?_))))
     refine oV (v_ln (l := a_there) rfl (fun _ _ h => h) sl49) (oV (v_lss rfl rfl) (oM rfl (rl_j (jb 75) je .nil h 5 rfl (fun q105 g105 h => ?_) (fun J106 h hJ106 => ?_))))
     ·
      refine oM rfl (rl_j (jb 80) je .nil h 4 rfl (fun q109 g109 h => ?_) (fun J110 h hJ110 => ?_))
      ·
       refine rnf (w_J (ι := Val) (γ := Unit) (fun q112 g112 => []) (fun q112 g112 => [boxE b104 (q112 : Val)]) (.cons .here .nil) h (fun q112 g112 h => ?_) (fun J113 h hJ113 => ?_))
       ·
        refine w_seq (wsr (oM rfl (oM rfl (oV (v_lss rfl rfl) ?_))))
        refine rnf (w_J (ι := Val) (γ := Tok) (fun q114 g114 => []) (fun q114 g114 => [boxE b15 ((q114.kind, q114.n, q114.b, (TList.mk g114 q114.l), q114.rule, q114.more) : (Int × Int × (List UInt8) × (TList Val) × Int × (List Raw))), tokE g114]) (.cons (.there (.there (.there .here))) (.cons (.there (.there (.there .here))) .nil)) h (fun q114 g114 h => ?_) (fun J115 h hJ115 => ?_))
        ·
         refine wsr (oM rfl (oM rfl (oV (v_lss rfl rfl) (rnf ?_))))
         refine w_condM h rfl (fun _ h => ?_) (fun _ h => ?_)
         ·
          refine w_region (oV (v_fa rfl pt46_0_3 fd46_3) (oT (t_loadC (R := appv g22.1 (q22.2.1.l)) ty43 rfl (.there (.there (.there .here))) isvT1 (oT (t_loadC (R := isv (q112)) ty46 rfl (.there (.there .here)) (fun _ _ h => h) (oT (t_buildSlice (l := ([q112] : (List Val))) el43 (.cons rfl (fun _ _ h => h) .nil) rfl rfl ?_)))))))
          refine asr_inv h fun q121 h => oT (t_appC (l := q22.2.1.l) (m := ([q112] : (List Val))) ap43_43 rfl (fun _ _ h => h) rfl appv_isv (.there (.there (.there (.there .here)))) q121 fun t120 => oV (v_fa rfl pt46_0_3 fd46_3) (oT (t_storeC (y' := ((q22.2.1.kind, q22.2.1.n, q22.2.1.b, (TList.mk t120 (q22.2.1.l ++ ([q112] : (List Val)))), q22.2.1.rule, q22.2.1.more) : (Int × Int × (List UInt8) × (TList Val) × Int × (List Raw)))) ty43 rfl rfl isvT2 (.there (.there (.there (.there .here)))) rfl (rl_nil ?_))))
          exact fin_block (hJ103 _ (t120, g114) h _ (join_imp 22 rfl rfl mod_nil (.cons .here (.cons .here (.cons .here (.cons .here (.cons (.there .here) (.cons (.there .here) .nil))))))))
         ·
          exact w_skip (fin_block (hJ103 _ (g22.1, g114) h _ (join_imp 16 rfl rfl mod_nil (.cons (.there (.there (.there .here))) (.cons (.there (.there (.there .here))) (.cons .here (.cons .here (.cons (.there .here) (.cons (.there .here) .nil)))))))))
        ·
         refine w_condM h rfl (fun _ h => ?_) (fun _ h => ?_)
         ·
          refine w_region (oV (v_fa rfl pt46_0_3 fd46_3) (oT (t_loadC (R := appv g22.2 (q22.2.2.l)) ty43 rfl (.there (.there (.there .here))) isvT1 (oT (t_loadC (R := isv (q112)) ty46 rfl .here (fun _ _ h => h) (oT (t_buildSlice (l := ([q112] : (List Val))) el43 (.cons rfl (fun _ _ h => h) .nil) rfl rfl ?_)))))))
          refine asr_inv h fun q118 h => oT (t_appC (l := q22.2.2.l) (m := ([q112] : (List Val))) ap43_43 rfl (fun _ _ h => h) rfl appv_isv (.there (.there (.there (.there .here)))) q118 fun t117 => oV (v_fa rfl pt46_0_3 fd46_3) (oT (t_storeC (y' := ((q22.2.2.kind, q22.2.2.n, q22.2.2.b, (TList.mk t117 (q22.2.2.l ++ ([q112] : (List Val)))), q22.2.2.rule, q22.2.2.more) : (Int × Int × (List UInt8) × (TList Val) × Int × (List Raw)))) ty43 rfl rfl isvT2 (.there (.there (.there (.there .here)))) rfl (rl_nil ?_))))
          exact hJ115 _ (t117) h _ (join_imp 6 rfl rfl mod_nil (.cons .here (.cons .here (.cons .here (.cons .here (.cons .here (.cons .here (.cons .here .nil))))))))
         ·
          exact w_skip (hJ115 _ (g22.2) h _ (join_imp 0 rfl rfl mod_nil (.cons (.there (.there (.there .here))) (.cons (.there (.there (.there .here))) (.cons .here (.cons .here (.cons .here (.cons .here (.cons .here .nil)))))))))
       ·
        refine w_condM h rfl (fun _ h => ?_) (fun _ h => ?_)
        ·
         refine w_region (oM rfl (oV (v_build (z := (Val.mk (2 : Int) q22.1 ([] : (List UInt8)) ([] : (List Val)) (0 : Int) ([] : (List Raw)))) rfl bu46 ze46 (.cons Val.f0 fd46_0 rfl (fun _ _ h => h) (.cons Val.f1 fd46_1 rfl (fun _ _ h => h) .nil))) (oT (t_storeC (y' := ((Val.mk (2 : Int) q22.1 ([] : (List UInt8)) ([] : (List Val)) (0 : Int) ([] : (List Raw))) : Val)) ty46 rfl rfl (fun _ _ h => h) .here rfl (rl_nil ?_)))))
         exact hJ113 _ () h _ (join_imp 2 rfl rfl mod_nil (.cons .here (.cons .here (.cons .here (.cons .here (.cons .here (.cons .here (.cons .here .nil))))))))
        ·
         exact w_skip (hJ113 _ () h _ (join_imp 0 rfl rfl mod_nil (.cons .here (.cons .here (.cons .here (.cons .here (.cons .here (.cons .here (.cons .here .nil)))))))))
      ·
       refine rl_condM (j := 76) h rfl (fun g111 h => ?_) (fun g111 h => ?_)
       ·
        exact oK 76 rfl rfl rfl g111 (v_move rfl) (oK 76 rfl rfl rfl g111 (v_move rfl) (oK 76 rfl rfl rfl g111 (v_lss rfl rfl) (oV (v_pick_t rfl g111 rfl) (hJ110 _ () h _ (join_imp 4 rfl rfl (mod_cons (j := 80) rfl (fun _ _ h => h) mod_nil) (.cons .here (.cons .here (.cons .here (.cons .here (.cons .here (.cons .here (.cons .here .nil))))))))))))
       ·
        exact oP 76 rfl rfl g111 (oP 76 rfl rfl g111 (oP 76 rfl rfl g111 (oV (v_pick_f rfl g111 rfl) (hJ110 _ () h _ (join_imp 4 rfl rfl (mod_cons (j := 80) rfl (fun _ _ h => h) mod_nil) (.cons .here (.cons .here (.cons .here (.cons .here (.cons .here (.cons .here (.cons .here .nil))))))))))))
     ·
      refine rl_condM (j := 70) h rfl (fun g107 h => ?_) (fun g107 h => ?_)
      ·
       refine oK 70 rfl rfl rfl g107 (v_move rfl) (oK 70 rfl rfl rfl g107 (v_move rfl) (cal_inv h fun y108 hy108 h => oK 70 rfl rfl rfl g107 (v_ix (l := a_there) rfl (fun _ _ h => h) rfl sl49 hy108) (oK 70 rfl rfl rfl g107 (v_loadI ty4 rfl) ?_)))
       exact oV (v_pick_t rfl g107 rfl) (hJ106 _ () h _ (join_imp 5 rfl rfl (mod_cons (j := 75) rfl (fun _ _ h => h) mod_nil) (.cons .here (.cons .here (.cons .here (.cons .here (.cons .here (.cons .here (.cons .here .nil)))))))))
      ·
       refine oP 70 rfl rfl g107 (oP 70 rfl rfl g107 (oP 70 rfl rfl g107 (oP 70 rfl rfl g107 (oV (v_pick_f rfl g107 rfl) ?_))))
       exact hJ106 _ () h _ (join_imp 5 rfl rfl (mod_cons (j := 75) rfl (fun _ _ h => h) mod_nil) (.cons .here (.cons .here (.cons .here (.cons .here (.cons .here (.cons .here (.cons .here .nil))))))))
   ·
    refine w_exit (exi_nxt (eL23 _ _ (exi_block (fin_nxt ?_))))
    refine w_seq (w_J (ι := Val × Int) (γ := Unit) (fun q123 g123 => [(13, anyv), (17, immv (q123.1)), (18, isv (q123.2))]) (fun q123 g123 => []) .nil h (fun q123 g123 h => ?_) (fun J124 h hJ124 => ?_))
    ·
     refine wsr (oM rfl (oV (v_toU Tryz.underlying3 Tryz.underlying39 rfl) (oM rfl (ck_inv h fun q132 h => ?_))))
     refine oV (v_add rfl rfl q132) (oV (v_toU Tryz.underlying3 Tryz.underlying39 rfl) (asr_inv h fun q133 h => oV (v_rem64 rfl rfl q133) (ck_inv h fun q134 h => ?_)))
     refine oV (v_u64i Tryz.underlying39 Tryz.underlying3 rfl q134) (oA rfl (rnf (wsr (oM rfl ?_))))
     refine oV (v_build (z := (Val.mk (2 : Int) (7 : Int) ([] : (List UInt8)) ([] : (List Val)) (0 : Int) ([] : (List Raw)))) rfl bu46 ze46 (.cons Val.f0 fd46_0 rfl (fun _ _ h => h) (.cons Val.f1 fd46_1 rfl (fun _ _ h => h) .nil))) (oT (t_buildSlice (l := ([(Val.mk (2 : Int) (7 : Int) ([] : (List UInt8)) ([] : (List Val)) (0 : Int) ([] : (List Raw)))] : (List Val))) el43 (.cons rfl (fun _ _ h => h) .nil) rfl rfl ?_))
     refine oV (v_build (z := (Val.mk (9 : Int) (((UInt64.ofNat (a_which % 18446744073709551616).toNat) % (UInt64.ofNat (((((UInt64.ofNat (a_from_ % 18446744073709551616).toNat) % (7 : UInt64)).toNat : Int) + (1 : Int)) % 18446744073709551616).toNat)).toNat : Int) ([] : (List UInt8)) ([(Val.mk (2 : Int) (7 : Int) ([] : (List UInt8)) ([] : (List Val)) (0 : Int) ([] : (List Raw)))] : (List Val)) (0 : Int) ([] : (List Raw)))) rfl bu46 ze46 (.cons Val.f0 fd46_0 rfl (fun _ _ h => h) (.cons Val.f1 fd46_1 rfl (fun _ _ h => h) (.cons Val.f3 fd46_3 rfl appv_isv .nil)))) (oT (t_alloc _ ze46 fun b136 => ?_))
     refine oT (t_storeC (y' := ((Val.mk (9 : Int) (((UInt64.ofNat (a_which % 18446744073709551616).toNat) % (UInt64.ofNat (((((UInt64.ofNat (a_from_ % 18446744073709551616).toNat) % (7 : UInt64)).toNat : Int) + (1 : Int)) % 18446744073709551616).toNat)).toNat : Int) ([] : (List UInt8)) ([(Val.mk (2 : Int) (7 : Int) ([] : (List UInt8)) ([] : (List Val)) (0 : Int) ([] : (List Raw)))] : (List Val)) (0 : Int) ([] : (List Raw))) : Val)) ty46 rfl rfl (fun _ _ h => h) .here rfl (rnf (w_seq (w_J (ι := Val × Int) (γ := Unit) (fun q137 g137 => [(20, ptrv b136 (Fld.id Val)), (21, immv (q137.1)), (22, isv (q137.2))]) (fun q137 g137 => []) .nil h (fun q137 g137 h => ?_) (fun J138 h hJ138 => ?_)))))
     ·
      refine wsr (oM rfl (oV (v_build (z := (Val.mk (3 : Int) (((UInt64.ofNat (a_which % 18446744073709551616).toNat) % (UInt64.ofNat (((((UInt64.ofNat (a_from_ % 18446744073709551616).toNat) % (7 : UInt64)).toNat : Int) + (1 : Int)) % 18446744073709551616).toNat)).toNat : Int) ([] : (List UInt8)) ([] : (List Val)) (0 : Int) ([] : (List Raw)))) rfl bu46 ze46 (.cons Val.f0 fd46_0 rfl (fun _ _ h => h) (.cons Val.f1 fd46_1 rfl (fun _ _ h => h) .nil))) (oT (t_alloc _ ze46 fun b146 => ?_))))
      refine oT (t_storeC (y' := ((Val.mk (3 : Int) (((UInt64.ofNat (a_which % 18446744073709551616).toNat) % (UInt64.ofNat (((((UInt64.ofNat (a_from_ % 18446744073709551616).toNat) % (7 : UInt64)).toNat : Int) + (1 : Int)) % 18446744073709551616).toNat)).toNat : Int) ([] : (List UInt8)) ([] : (List Val)) (0 : Int) ([] : (List Raw))) : Val)) ty46 rfl rfl (fun _ _ h => h) .here rfl (rnf (w_seq (w_J (ι := Val × Int) (γ := Unit) (fun q147 g147 => [(23, ptrv b146 (Fld.id Val)), (24, immv (q147.1)), (25, isv (q147.2))]) (fun q147 g147 => []) .nil h (fun q147 g147 h => ?_) (fun J148 h hJ148 => ?_)))))
      ·
       refine w_seq (wsr (oM rfl (oM rfl (oV (v_gtr rfl rfl) ?_))))
       refine rnf (w_J (ι := Val × Val) (γ := Unit) (fun q156 g156 => []) (fun q156 g156 => [boxE b146 (q156.1 : Val), boxE b136 (q156.2 : Val)]) (.cons .here (.cons .here .nil)) h (fun q156 g156 h => ?_) (fun J157 h hJ157 => ?_))
       ·
        refine wsr (cal_inv h fun y158 hy158 h => oT (t_call (law14_awake_w hy158) hT .nil .nil (fun R H' hR => ?_)))
        obtain ⟨rfl, rfl⟩ := hR
        refine oM rfl (rl_j (jb 168) je .nil h 3 rfl (fun q159 g159 h => ?_) (fun J160 h hJ160 => ?_))
        ·
         refine oM rfl (rl_j (jb 172) je .nil h 3 rfl (fun q162 g162 h => ?_) (fun J163 h hJ163 => ?_))
         ·
          refine oM rfl (rl_j (jb 176) je .nil h 3 rfl (fun q165 g165 h => ?_) (fun J166 h hJ166 => ?_))
          ·
           refine oM rfl (rl_j (jb 181) je .nil h 4 rfl (fun q168 g168 h => ?_) (fun J169 h hJ169 => ?_))
           ·
            refine oM rfl (rl_j (jb 186) je .nil h 4 rfl (fun q172 g172 h => ?_) (fun J173 h hJ173 => ?_))
            ·
             refine oM rfl (rl_j (jb 191) je .nil h 4 rfl (fun q176 g176 h => ?_) (fun J177 h hJ177 => ?_))
             ·
              refine oA rfl (rnf (w_ret (ret_post (.tmp rfl .nil) .nil ?_)))
              obtain rfl := Option.some.inj h
              exact ⟨rfl, rfl⟩
             ·
              refine rl_condM (j := 187) h rfl (fun g178 h => ?_) (fun g178 h => ?_)
              ·
               refine oK 187 rfl rfl rfl g178 (v_loadI ty46 rfl) (op_take rfl rfl (dj := 187) rfl g178 (t_loadC (R := isv (q156.1)) ty46 rfl .here (fun _ _ h => h) (cal_inv h fun y179 hy179 h => op_take rfl rfl (dj := 187) rfl g178 (t_call (h_Value_w fuel hy179) hT (.same rfl (.same rfl .nil)) .nil (fun R H' hR => ?_)))))
               obtain ⟨rfl, rfl⟩ := hR
               exact oV (v_pick_t rfl g178 rfl) (hJ177 _ () h _ (join_imp 4 rfl rfl (mod_cons (j := 191) rfl (fun _ _ h => h) mod_nil) (.cons .here (.cons .here (.cons .here (.cons .here (.cons .here (.cons .here (.cons .here (.cons .here .nil))))))))))
              ·
               exact oP 187 rfl rfl g178 (oP 187 rfl rfl g178 (oP 187 rfl rfl g178 (oV (v_pick_f rfl g178 rfl) (hJ177 _ () h _ (join_imp 4 rfl rfl (mod_cons (j := 191) rfl (fun _ _ h => h) mod_nil) (.cons .here (.cons .here (.cons .here (.cons .here (.cons .here (.cons .here (.cons .here (.cons .here .nil)))))))))))))
            ·
             refine rl_condM (j := 182) h rfl (fun g174 h => ?_) (fun g174 h => ?_)
             ·
              refine oK 182 rfl rfl rfl g174 (v_loadI ty46 rfl) (op_take rfl rfl (dj := 182) rfl g174 (t_loadC (R := isv (q156.2)) ty46 rfl (.there .here) (fun _ _ h => h) (cal_inv h fun y175 hy175 h => op_take rfl rfl (dj := 182) rfl g174 (t_call (h_Value_w fuel hy175) hT (.same rfl (.same rfl .nil)) .nil (fun R H' hR => ?_)))))
              obtain ⟨rfl, rfl⟩ := hR
              exact oV (v_pick_t rfl g174 rfl) (hJ173 _ () h _ (join_imp 4 rfl rfl (mod_cons (j := 186) rfl (fun _ _ h => h) mod_nil) (.cons .here (.cons .here (.cons .here (.cons .here (.cons .here (.cons .here (.cons .here (.cons .here .nil))))))))))
             ·
              exact oP 182 rfl rfl g174 (oP 182 rfl rfl g174 (oP 182 rfl rfl g174 (oV (v_pick_f rfl g174 rfl) (hJ173 _ () h _ (join_imp 4 rfl rfl (mod_cons (j := 186) rfl (fun _ _ h => h) mod_nil) (.cons .here (.cons .here (.cons .here (.cons .here (.cons .here (.cons .here (.cons .here (.cons .here .nil)))))))))))))
           ·
            refine rl_condM (j := 177) h rfl (fun g170 h => ?_) (fun g170 h => ?_)
            ·
             refine oK 177 rfl rfl rfl g170 (v_loadI ty46 rfl) (op_take rfl rfl (dj := 177) rfl g170 (t_loadC (y := ((q22.2.1.kind, q22.2.1.n, q22.2.1.b, (TList.mk g22.1 q22.2.1.l), q22.2.1.rule, q22.2.1.more) : (Int × Int × (List UInt8) × (TList Val) × Int × (List Raw)))) (R := isv (((q22.2.1.kind, q22.2.1.n, q22.2.1.b, (TList.mk g22.1 q22.2.1.l), q22.2.1.rule, q22.2.1.more)) : ((Int × Int × (List UInt8) × (TList Val) × Int × (List Raw))))) ty46 rfl (.there (.there .here)) (by exact (fun _ _ h => h)) ?_))
             refine rl_upd (upd_slot (R' := isv (q22.2.1)) 179 rfl (Cv.isv rfl fun S => (fun cs h => Cv.val cs (((Cv.pair Cv.id (Cv.pair Cv.id (Cv.pair Cv.id (Cv.pair Cv.tl (Cv.pair Cv.id Cv.id))))) : Cv S ((q22.2.1.kind, q22.2.1.n, q22.2.1.b, (TList.mk g22.1 q22.2.1.l), q22.2.1.rule, q22.2.1.more) : (Int × Int × (List UInt8) × (TList Val) × Int × (List Raw))) (Val.to q22.2.1)) cs h)))) (cal_inv h fun y171 hy171 h => op_take rfl rfl (dj := 177) rfl g170 (t_call (h_Value_w fuel hy171) hT (.same rfl (.same rfl .nil)) .nil (fun R H' hR => ?_)))
             obtain ⟨rfl, rfl⟩ := hR
             exact oV (v_pick_t rfl g170 rfl) (hJ169 _ () h _ (join_imp 5 rfl rfl (mod_cons (j := 181) rfl (fun _ _ h => h) mod_nil) (.cons .here (.cons .here (.cons .here (.cons .here (.cons .here (.cons .here (.cons .here (.cons .here .nil))))))))))
            ·
             exact oP 177 rfl rfl g170 (oP 177 rfl rfl g170 (oP 177 rfl rfl g170 (oV (v_pick_f rfl g170 rfl) (hJ169 _ () h _ (join_imp 4 rfl rfl (mod_cons (j := 181) rfl (fun _ _ h => h) mod_nil) (.cons .here (.cons .here (.cons .here (.cons .here (.cons .here (.cons .here (.cons .here (.cons .here .nil)))))))))))))
          ·
           refine rl_condM (j := 173) h rfl (fun g167 h => ?_) (fun g167 h => ?_)
           ·
            exact oK 173 rfl rfl rfl g167 (v_move rfl) (oK 173 rfl rfl rfl g167 (v_eql rfl rfl) (oV (v_pick_t rfl g167 rfl) (hJ166 _ () h _ (join_imp 3 rfl rfl (mod_cons (j := 176) rfl (fun _ _ h => h) mod_nil) (.cons .here (.cons .here (.cons .here (.cons .here (.cons .here (.cons .here (.cons .here (.cons .here .nil))))))))))))
           ·
            exact oP 173 rfl rfl g167 (oP 173 rfl rfl g167 (oV (v_pick_f rfl g167 rfl) (hJ166 _ () h _ (join_imp 3 rfl rfl (mod_cons (j := 176) rfl (fun _ _ h => h) mod_nil) (.cons .here (.cons .here (.cons .here (.cons .here (.cons .here (.cons .here (.cons .here (.cons .here .nil))))))))))))
         ·
          refine rl_condM (j := 169) h rfl (fun g164 h => ?_) (fun g164 h => ?_)
          ·
           exact oK 169 rfl rfl rfl g164 (v_move rfl) (oK 169 rfl rfl rfl g164 (v_eql rfl rfl) (oV (v_pick_t rfl g164 rfl) (hJ163 _ () h _ (join_imp 3 rfl rfl (mod_cons (j := 172) rfl (fun _ _ h => h) mod_nil) (.cons .here (.cons .here (.cons .here (.cons .here (.cons .here (.cons .here (.cons .here (.cons .here .nil))))))))))))
          ·
           exact oP 169 rfl rfl g164 (oP 169 rfl rfl g164 (oV (v_pick_f rfl g164 rfl) (hJ163 _ () h _ (join_imp 3 rfl rfl (mod_cons (j := 172) rfl (fun _ _ h => h) mod_nil) (.cons .here (.cons .here (.cons .here (.cons .here (.cons .here (.cons .here (.cons .here (.cons .here .nil))))))))))))
        ·
         refine rl_condM (j := 165) h rfl (fun g161 h => ?_) (fun g161 h => ?_)
         ·
          exact oK 165 rfl rfl rfl g161 (v_move rfl) (oK 165 rfl rfl rfl g161 (v_eql rfl rfl) (oV (v_pick_t rfl g161 rfl) (hJ160 _ () h _ (join_imp 3 rfl rfl (mod_cons (j := 168) rfl (fun _ _ h => h) mod_nil) (.cons .here (.cons .here (.cons .here (.cons .here (.cons .here (.cons .here (.cons .here (.cons .here .nil))))))))))))
         ·
          exact oP 165 rfl rfl g161 (oP 165 rfl rfl g161 (oV (v_pick_f rfl g161 rfl) (hJ160 _ () h _ (join_imp 3 rfl rfl (mod_cons (j := 168) rfl (fun _ _ h => h) mod_nil) (.cons .here (.cons .here (.cons .here (.cons .here (.cons .here (.cons .here (.cons .here (.cons .here .nil))))))))))))
       ·
        refine w_condM h rfl (fun _ h => ?_) (fun _ h => ?_)
        ·
         refine w_region (oV (v_build (z := (Val.mk (12 : Int) (0 : Int) ([] : (List UInt8)) ([] : (List Val)) (0 : Int) ([] : (List Raw)))) rfl bu46 ze46 (.cons Val.f0 fd46_0 rfl (fun _ _ h => h) .nil)) (oV (v_build (z := (Val.mk (12 : Int) (0 : Int) ([] : (List UInt8)) ([] : (List Val)) (0 : Int) ([] : (List Raw)))) rfl bu46 ze46 (.cons Val.f0 fd46_0 rfl (fun _ _ h => h) .nil)) (oT (t_storeC (y' := ((Val.mk (12 : Int) (0 : Int) ([] : (List UInt8)) ([] : (List Val)) (0 : Int) ([] : (List Raw))) : Val)) ty46 rfl rfl (fun _ _ h => h) (.there .here) rfl ?_))))
         exact oT (t_storeC (y' := ((Val.mk (12 : Int) (0 : Int) ([] : (List UInt8)) ([] : (List Val)) (0 : Int) ([] : (List Raw))) : Val)) ty46 rfl rfl (fun _ _ h => h) (.there .here) rfl (rl_nil (hJ157 _ () h _ (join_imp 2 rfl rfl mod_nil (.cons .here (.cons .here (.cons .here (.cons .here (.cons .here (.cons .here (.cons .here (.cons .here .nil))))))))))))
        ·
         exact w_skip (hJ157 _ () h _ (join_imp 0 rfl rfl mod_nil (.cons .here (.cons .here (.cons .here (.cons .here (.cons .here (.cons .here (.cons .here (.cons .here .nil))))))))))
      ·
       refine w_pinN 23 .here rfl (fun o149 hn150 => w_regionD (.v 0 (.v 1 (.v 2 (.v 3 (.v 4 (.v 5 (.v 6 (.v 7 (.v 8 (.v 9 (.v 10 (.alt 11 (.v 12 (.v 13 (.v 14 (.t 15 (.t 16 (.v 17 .nil)))))) (.t 15 (.t 11 (.v 12 (.v 13 (.v 14 (.t 16 (.v 17 .nil))))))))))))))))))) moOrd (by kernel_rfl) ?_)
       refine rd_v rfl (v_loadI ty26 rfl) (rd_v rfl (v_fi rfl GTab.f2 fd26_2 rfl (z := y6.1.roots)) (rd_v rfl (v_loadI ty23 rfl) (cal_inv h fun y151 hy151 h => rd_v rfl (v_ix (l := y6.1.roots) rfl (fun _ _ h => h) rfl sl23 hy151) ?_)))
       refine rd_v rfl (v_loadI ty3 rfl) (rd_v rfl (v_loadI ty26 rfl) (rd_v rfl (v_fi rfl GTab.f2 fd26_2 rfl (z := y9.1.roots)) (rd_v rfl (v_loadI ty23 rfl) (cal_inv h fun y152 hy152 h => ?_))))
       refine rd_v rfl (v_ix (l := y9.1.roots) rfl (fun _ _ h => h) rfl sl23 hy152) (rd_v rfl (v_loadI ty3 rfl) (rd_v rfl (v_lpC (R := isv ((Val.mk (3 : Int) (((UInt64.ofNat (a_which % 18446744073709551616).toNat) % (UInt64.ofNat (((((UInt64.ofNat (a_from_ % 18446744073709551616).toNat) % (7 : UInt64)).toNat : Int) + (1 : Int)) % 18446744073709551616).toNat)).toNat : Int) ([] : (List UInt8)) ([] : (List Val)) (0 : Int) ([] : (List Raw))))) ty46 rfl (List.Mem.head _) (fun _ _ h => h)) (cal_inv h fun y153 hy153 h => rd_two ?_ ?_)))
       ·
        refine rd_t rfl rfl (t_call (project_Value_w hy153) hT (.same rfl (.same rfl (.same rfl (.same rfl (.same rfl .nil))))) .nil (fun R H' hR => ?_))
        obtain ⟨rfl, rfl⟩ := hR
        refine rvm rfl rfl (rd_v rfl (v_extract rfl rfl) (rd_v rfl (v_extract rfl rfl) (rd_t rfl rfl (t_alloc _ ze46 fun b154 => rd_t rfl rfl (t_storeC (y' := (y153.1 : Val)) ty46 rfl rfl (fun _ _ h => h) .here rfl ?_)))))
        exact rd_upd (upd_imm 24 .here rfl) (rd_v rfl (v_assign rfl) (rd_nil (fin_unpinN 23 hn150 rfl (hJ148 _ () h _ (join_imp 20 rfl rfl (mod_cons (j := 23) rfl (fun _ _ h => h) (mod_cons (j := 24) rfl (fun _ _ h => h) (mod_cons (j := 25) rfl (fun _ _ h => h) mod_nil))) (.cons .here (.cons .here (.cons .here (.cons .here (.cons .here (.cons .here (.cons .here (.cons .here .nil)))))))))))))
       ·
        refine rd_t rfl rfl (t_alloc _ ze46 fun b155 => rd_t rfl rfl (t_call (project_Value_w hy153) hT (.same rfl (.same rfl (.same rfl (.same rfl (.same rfl .nil))))) .nil (fun R H' hR => ?_)))
        obtain ⟨rfl, rfl⟩ := hR
        refine rvm rfl rfl (rd_v rfl (v_extract rfl rfl) (rd_v rfl (v_extract rfl rfl) (rd_t rfl rfl (t_storeC (y' := (y153.1 : Val)) ty46 rfl rfl (fun _ _ h => h) .here rfl (rd_upd (upd_imm 24 .here rfl) ?_)))))
        exact rd_v rfl (v_assign rfl) (rd_nil (fin_unpinN 23 hn150 rfl (hJ148 _ () h _ (join_imp 20 rfl rfl (mod_cons (j := 23) rfl (fun _ _ h => h) (mod_cons (j := 24) rfl (fun _ _ h => h) (mod_cons (j := 25) rfl (fun _ _ h => h) mod_nil))) (.cons .here (.cons .here (.cons .here (.cons .here (.cons .here (.cons .here (.cons .here (.cons .here .nil))))))))))))
     ·
      refine w_pinN 20 .here rfl (fun o139 hn140 => w_regionD (.v 0 (.v 1 (.v 2 (.v 3 (.v 4 (.v 5 (.v 6 (.v 7 (.v 8 (.v 9 (.v 10 (.alt 11 (.v 12 (.v 13 (.v 14 (.t 15 (.t 16 (.v 17 .nil)))))) (.t 15 (.t 11 (.v 12 (.v 13 (.v 14 (.t 16 (.v 17 .nil))))))))))))))))))) moOrd (by kernel_rfl) ?_)
      refine rd_v rfl (v_loadI ty26 rfl) (rd_v rfl (v_fi rfl GTab.f2 fd26_2 rfl (z := y6.1.roots)) (rd_v rfl (v_loadI ty23 rfl) (cal_inv h fun y141 hy141 h => rd_v rfl (v_ix (l := y6.1.roots) rfl (fun _ _ h => h) rfl sl23 hy141) ?_)))
      refine rd_v rfl (v_loadI ty3 rfl) (rd_v rfl (v_loadI ty26 rfl) (rd_v rfl (v_fi rfl GTab.f2 fd26_2 rfl (z := y9.1.roots)) (rd_v rfl (v_loadI ty23 rfl) (cal_inv h fun y142 hy142 h => ?_))))
      refine rd_v rfl (v_ix (l := y9.1.roots) rfl (fun _ _ h => h) rfl sl23 hy142) (rd_v rfl (v_loadI ty3 rfl) (rd_v rfl (v_lpC (R := isv ((Val.mk (9 : Int) (((UInt64.ofNat (a_which % 18446744073709551616).toNat) % (UInt64.ofNat (((((UInt64.ofNat (a_from_ % 18446744073709551616).toNat) % (7 : UInt64)).toNat : Int) + (1 : Int)) % 18446744073709551616).toNat)).toNat : Int) ([] : (List UInt8)) ([(Val.mk (2 : Int) (7 : Int) ([] : (List UInt8)) ([] : (List Val)) (0 : Int) ([] : (List Raw)))] : (List Val)) (0 : Int) ([] : (List Raw))))) ty46 rfl (List.Mem.head _) (fun _ _ h => h)) (cal_inv h fun y143 hy143 h => rd_two ?_ ?_)))
      ·
       refine rd_t rfl rfl (t_call (project_Value_w hy143) hT (.same rfl (.same rfl (.same rfl (.same rfl (.same rfl .nil))))) .nil (fun R H' hR => ?_))
       obtain ⟨rfl, rfl⟩ := hR
       refine rvm rfl rfl (rd_v rfl (v_extract rfl rfl) (rd_v rfl (v_extract rfl rfl) (rd_t rfl rfl (t_alloc _ ze46 fun b144 => rd_t rfl rfl (t_storeC (y' := (y143.1 : Val)) ty46 rfl rfl (fun _ _ h => h) .here rfl ?_)))))
       exact rd_upd (upd_imm 21 .here rfl) (rd_v rfl (v_assign rfl) (rd_nil (fin_unpinN 20 hn140 rfl (hJ138 _ () h _ (join_imp 20 rfl rfl (mod_cons (j := 20) rfl (fun _ _ h => h) (mod_cons (j := 21) rfl (fun _ _ h => h) (mod_cons (j := 22) rfl (fun _ _ h => h) mod_nil))) (.cons .here (.cons .here (.cons .here (.cons .here (.cons .here (.cons .here (.cons .here .nil))))))))))))
      ·
       refine rd_t rfl rfl (t_alloc _ ze46 fun b145 => rd_t rfl rfl (t_call (project_Value_w hy143) hT (.same rfl (.same rfl (.same rfl (.same rfl (.same rfl .nil))))) .nil (fun R H' hR => ?_)))
       obtain ⟨rfl, rfl⟩ := hR
       refine rvm rfl rfl (rd_v rfl (v_extract rfl rfl) (rd_v rfl (v_extract rfl rfl) (rd_t rfl rfl (t_storeC (y' := (y143.1 : Val)) ty46 rfl rfl (fun _ _ h => h) .here rfl (rd_upd (upd_imm 21 .here rfl) ?_)))))
       exact rd_v rfl (v_assign rfl) (rd_nil (fin_unpinN 20 hn140 rfl (hJ138 _ () h _ (join_imp 20 rfl rfl (mod_cons (j := 20) rfl (fun _ _ h => h) (mod_cons (j := 21) rfl (fun _ _ h => h) (mod_cons (j := 22) rfl (fun _ _ h => h) mod_nil))) (.cons .here (.cons .here (.cons .here (.cons .here (.cons .here (.cons .here (.cons .here .nil)))))))))))
    ·
     refine w_pinN 13 (.there (.there .here)) rfl (fun o125 hn126 => w_regionD (.v 0 (.v 1 (.v 2 (.v 3 (.v 4 (.v 5 (.v 6 (.v 7 (.v 8 (.v 9 (.v 10 (.alt 11 (.v 12 (.v 13 (.v 14 (.t 15 (.t 16 (.v 17 .nil)))))) (.t 15 (.t 11 (.v 12 (.v 13 (.v 14 (.t 16 (.v 17 .nil))))))))))))))))))) moOrd (by kernel_rfl) ?_)
     refine rd_v rfl (v_loadI ty26 rfl) (rd_v rfl (v_fi rfl GTab.f2 fd26_2 rfl (z := y6.1.roots)) (rd_v rfl (v_loadI ty23 rfl) (cal_inv h fun y127 hy127 h => rd_v rfl (v_ix (l := y6.1.roots) rfl (fun _ _ h => h) rfl sl23 hy127) ?_)))
     refine rd_v rfl (v_loadI ty3 rfl) (rd_v rfl (v_loadI ty26 rfl) (rd_v rfl (v_fi rfl GTab.f2 fd26_2 rfl (z := y9.1.roots)) (rd_v rfl (v_loadI ty23 rfl) (cal_inv h fun y128 hy128 h => ?_))))
     refine rd_v rfl (v_ix (l := y9.1.roots) rfl (fun _ _ h => h) rfl sl23 hy128) (rd_v rfl (v_loadI ty3 rfl) (rd_v rfl (v_lpC (R := isv (((q22.2.2.kind, q22.2.2.n, q22.2.2.b, (TList.mk g22.2 q22.2.2.l), q22.2.2.rule, q22.2.2.more)) : ((Int × Int × (List UInt8) × (TList Val) × Int × (List Raw))))) ty46 rfl (List.Mem.head _) (fun _ _ h => h)) ?_))
     refine rd_upd (upd_slot (R' := isv (q22.2.2)) 112 rfl (Cv.isv rfl fun S => (fun cs h => Cv.val cs (((Cv.pair Cv.id (Cv.pair Cv.id (Cv.pair Cv.id (Cv.pair Cv.tl (Cv.pair Cv.id Cv.id))))) : Cv S ((q22.2.2.kind, q22.2.2.n, q22.2.2.b, (TList.mk g22.2 q22.2.2.l), q22.2.2.rule, q22.2.2.more) : (Int × Int × (List UInt8) × (TList Val) × Int × (List Raw))) (Val.to q22.2.2)) cs h)))) (cal_inv h fun y129 hy129 h => rd_two ?_ ?_)
     ·
      refine rd_t rfl rfl (t_call (project_Value_w hy129) hT (.same rfl (.same rfl (.same rfl (.same rfl (.same rfl .nil))))) .nil (fun R H' hR => ?_))
      obtain ⟨rfl, rfl⟩ := hR
      refine rvm rfl rfl (rd_v rfl (v_extract rfl rfl) (rd_v rfl (v_extract rfl rfl) (rd_t rfl rfl (t_alloc _ ze46 fun b130 => rd_t rfl rfl (t_storeC (y' := (y129.1 : Val)) ty46 rfl rfl (fun _ _ h => h) .here rfl ?_)))))
      exact rd_upd (upd_imm 17 .here rfl) (rd_v rfl (v_assign rfl) (rd_nil (fin_unpinN 13 hn126 rfl (hJ124 _ () h _ (join_imp 21 rfl rfl (mod_cons (j := 13) rfl (fun _ _ _ => trivial) (mod_cons (j := 17) rfl (fun _ _ h => h) (mod_cons (j := 18) rfl (fun _ _ h => h) mod_nil))) (.cons (.there .here) (.cons (.there .here) (.cons .here (.cons .here (.cons .here (.cons .here .nil)))))))))))
     ·
      refine rd_t rfl rfl (t_alloc _ ze46 fun b131 => rd_t rfl rfl (t_call (project_Value_w hy129) hT (.same rfl (.same rfl (.same rfl (.same rfl (.same rfl .nil))))) .nil (fun R H' hR => ?_)))
      obtain ⟨rfl, rfl⟩ := hR
      refine rvm rfl rfl (rd_v rfl (v_extract rfl rfl) (rd_v rfl (v_extract rfl rfl) (rd_t rfl rfl (t_storeC (y' := (y129.1 : Val)) ty46 rfl rfl (fun _ _ h => h) .here rfl (rd_upd (upd_imm 17 .here rfl) ?_)))))
      exact rd_v rfl (v_assign rfl) (rd_nil (fin_unpinN 13 hn126 rfl (hJ124 _ () h _ (join_imp 21 rfl rfl (mod_cons (j := 13) rfl (fun _ _ _ => trivial) (mod_cons (j := 17) rfl (fun _ _ h => h) (mod_cons (j := 18) rfl (fun _ _ h => h) mod_nil))) (.cons (.there .here) (.cons (.there .here) (.cons .here (.cons .here (.cons .here (.cons .here .nil))))))))))
 ·
  refine rl_condM (j := 48) h rfl (fun g13 h => ?_) (fun g13 h => ?_)
  ·
   exact oP 48 rfl rfl g13 (oP 48 rfl rfl g13 (oV (v_pick_t rfl g13 rfl) (hJ12 _ () h _ (ji 3 51 rfl rfl rfl))))
  ·
   exact oK 48 rfl rfl rfl g13 (v_move rfl) (oK 48 rfl rfl rfl g13 (v_not rfl) (oV (v_pick_f rfl g13 rfl) (hJ12 _ () h _ (ji 3 51 rfl rfl rfl))))

end Go.Proofs.YtnnijoepfgnlfaaGreatDoor

