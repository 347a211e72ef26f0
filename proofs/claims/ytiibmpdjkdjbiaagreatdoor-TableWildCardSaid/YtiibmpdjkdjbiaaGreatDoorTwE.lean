/- Walks, printed by mill.py. -/
import Derived.Test.YtiibmpdjkdjbiaaGreatDoorTwA
import Derived.Test.YtiibmpdjkdjbiaaGreatDoorTwB
import Derived.Test.YtiibmpdjkdjbiaaGreatDoorTwC
import Derived.Test.YtiibmpdjkdjbiaaGreatDoorTwD
set_option linter.unusedVariables false
set_option linter.unusedSimpArgs false

namespace Go.Proofs.YtiibmpdjkdjbiaaGreatDoor
open Go.Sy
set_option maxRecDepth 4000
theorem table_Find_w : ∀ {a_t : GTab} {a_name : Str} {r : Int}, table_Find a_t a_name = some r → Ctr Tryz.prog 23 [isv (a_t), isv (a_name)] [] (fun R H => R = oneOf [isv (r)] ∧ H = []) := by
 intro a_t a_name r h
 unfold table_Find at h
 refine spec_intro Tryz.func23 rfl (by decide +kernel) (by rfl) fun w0 S0 hT => ?_
 refine wsr (oT (t_boxIC (y := a_t) rfl (fun _ _ h => h) (oA rfl (rnf (wsr ?_)))))
 refine oV (v_fi rfl GTab.f1 fd33_1 rfl (z := a_t.names)) (oV (v_loadI ty22 rfl) (oM rfl (cal_inv h fun y1 hy1 h => oT (t_call (slices_Index_Lstring_string_w hy1) hT (.same rfl (.same rfl .nil)) .nil (fun R H' hR => ?_)))))
 obtain ⟨rfl, rfl⟩ := hR
 refine oA rfl (rnf (w_seq (wsr (oM rfl ?_))))
 refine oV (v_lss rfl rfl) (oM rfl (rl_j (jb 18) je .nil h 6 rfl (fun q2 g2 h => ?_) (fun J3 h hJ3 => ?_)))
 ·
  refine rnf (w_condM h rfl (fun _ h => ?_) (fun _ h => ?_))
  ·
   refine wsr (oA rfl (rnf (w_ret (ret_nxt ?_))))
   refine ret_post (.tmp rfl .nil) .nil ?_
   obtain rfl := Option.some.inj h
   exact ⟨rfl, rfl⟩
  ·
   refine wkf (wsr (oV (v_fi rfl GTab.f2 fd33_2 rfl (z := a_t.roots)) (oV (v_loadI ty23 rfl) (oM rfl ?_))))
   refine cal_inv h fun y5 hy5 h => oV (v_ix (l := a_t.roots) rfl (fun _ _ h => h) rfl sl23 hy5) (oV (v_loadI ty3 rfl) (oA rfl (rnf ?_)))
   refine w_ret (ret_post (.tmp rfl .nil) .nil ?_)
   obtain rfl := Option.some.inj h
   exact ⟨rfl, rfl⟩
 ·
  refine rl_condM (j := 12) h rfl (fun g4 h => ?_) (fun g4 h => ?_)
  ·
   refine oP 12 rfl rfl g4 (oP 12 rfl rfl g4 (oP 12 rfl rfl g4 (oP 12 rfl rfl g4 (oP 12 rfl rfl g4 ?_))))
   exact oV (v_pick_t rfl g4 rfl) (hJ3 _ () h _ (ji 6 18 rfl rfl rfl))
  ·
   refine oK 12 rfl rfl rfl g4 (v_move rfl) (oK 12 rfl rfl rfl g4 (v_fi rfl GTab.f2 fd33_2 rfl (z := a_t.roots)) (oK 12 rfl rfl rfl g4 (v_loadI ty23 rfl) (oK 12 rfl rfl rfl g4 (v_ln (l := a_t.roots) rfl (fun _ _ h => h) sl23) (oK 12 rfl rfl rfl g4 (v_geq rfl rfl) ?_))))
   exact oV (v_pick_f rfl g4 rfl) (hJ3 _ () h _ (ji 6 18 rfl rfl rfl))


theorem law10_awake_w : ∀  {r : Bool}, law10_awake  = some r → Ctr Tryz.prog 12 [] [] (fun R H => R = oneOf [isv (r)] ∧ H = []) := by
 intro  r h
 unfold law10_awake at h
 refine spec_intro Tryz.func12 rfl (by decide +kernel) (by rfl) fun w0 S0 hT => ?_
 refine wsr (oA rfl (rnf (wsr (cal_inv h fun y1 hy1 h => ?_))))
 refine oT (t_call (r05_Parse_w hy1) hT (.same rfl .nil) .nil (fun R H' hR => ?_))
 obtain ⟨rfl, rfl⟩ := hR
 refine oM rfl (oV (v_extract rfl rfl) (oV (v_extract rfl rfl) (oV (v_extract rfl rfl) (oT (t_alloc _ ze26 fun b2 => ?_)))))
 refine oT (t_storeC (y' := (y1.1 : GMod)) ty26 rfl rfl (fun _ _ h => h) .here rfl (rl_upd (upd_imm 1 .here rfl) (oA rfl (oA rfl (rnf ?_)))))
 refine wsr (oV (v_loadI ty26 rfl) (cal_inv h fun y3 hy3 h => oT (t_call (table_Make_w hy3) hT (.same rfl .nil) .nil (fun R H' hR => ?_))))
 obtain ⟨rfl, rfl⟩ := hR
 refine oM rfl (oV (v_extract rfl rfl) (oV (v_extract rfl rfl) (oV (v_extract rfl rfl) (oT (t_alloc _ ze33 fun b4 => ?_)))))
 refine oT (t_storeC (y' := (y3.1 : GTab)) ty33 rfl rfl (fun _ _ h => h) .here rfl (rl_upd (upd_imm 4 .here rfl) (oA rfl (oA rfl (rnf ?_)))))
 refine wsr (oM rfl (oV (v_eql rfl rfl) (oM rfl (rl_j (jb 25) je .nil h 5 rfl (fun q5 g5 h => ?_) (fun J6 h hJ6 => ?_)))))
 ·
  refine oM rfl (rl_j (jb 30) je .nil h 4 rfl (fun q8 g8 h => ?_) (fun J9 h hJ9 => ?_))
  ·
   refine oM rfl (rl_j (jb 39) je .nil h 8 rfl (fun q12 g12 h => ?_) (fun J13 h hJ13 => ?_))
   ·
    refine oA rfl (rnf (w_ret (ret_post (.tmp rfl .nil) .nil ?_)))
    obtain rfl := Option.some.inj h
    exact ⟨rfl, rfl⟩
   ·
    refine rl_condM (j := 31) h rfl (fun g14 h => ?_) (fun g14 h => ?_)
    ·
     refine oK 31 rfl rfl rfl g14 (v_fi rfl GTab.f3 fd33_3 rfl (z := y3.1.types)) (oK 31 rfl rfl rfl g14 (v_loadI ty31 rfl) (cal_inv h fun y15 hy15 h => oK 31 rfl rfl rfl g14 (v_ix (l := y3.1.types) rfl (fun _ _ h => h) rfl sl31 hy15) (oK 31 rfl rfl rfl g14 (v_fi rfl GTyp.f1 fd43_1 rfl (z := y15.tags)) ?_)))
     exact oK 31 rfl rfl rfl g14 (v_loadI ty37 rfl) (oK 31 rfl rfl rfl g14 (v_ln (l := y15.tags) rfl (fun _ _ h => h) sl37) (oK 31 rfl rfl rfl g14 (v_eql rfl rfl) (oV (v_pick_t rfl g14 rfl) (hJ13 _ () h _ (ji 8 39 rfl rfl rfl)))))
    ·
     refine oP 31 rfl rfl g14 (oP 31 rfl rfl g14 (oP 31 rfl rfl g14 (oP 31 rfl rfl g14 (oP 31 rfl rfl g14 ?_))))
     exact oP 31 rfl rfl g14 (oP 31 rfl rfl g14 (oV (v_pick_f rfl g14 rfl) (hJ13 _ () h _ (ji 8 39 rfl rfl rfl))))
  ·
   refine rl_condM (j := 26) h rfl (fun g10 h => ?_) (fun g10 h => ?_)
   ·
    refine oK 26 rfl rfl rfl g10 (v_loadI ty33 rfl) (cal_inv h fun y11 hy11 h => op_take rfl rfl (dj := 26) rfl g10 (t_call (table_Find_w hy11) hT (.same rfl (.same rfl .nil)) .nil (fun R H' hR => ?_)))
    obtain ⟨rfl, rfl⟩ := hR
    exact oK 26 rfl rfl rfl g10 (v_eql rfl rfl) (oV (v_pick_t rfl g10 rfl) (hJ9 _ () h _ (ji 4 30 rfl rfl rfl)))
   ·
    exact oP 26 rfl rfl g10 (oP 26 rfl rfl g10 (oP 26 rfl rfl g10 (oV (v_pick_f rfl g10 rfl) (hJ9 _ () h _ (ji 4 30 rfl rfl rfl)))))
 ·
  refine rl_condM (j := 20) h rfl (fun g7 h => ?_) (fun g7 h => ?_)
  ·
   refine oK 20 rfl rfl rfl g7 (v_fi rfl GTab.f3 fd33_3 rfl (z := y3.1.types)) (oK 20 rfl rfl rfl g7 (v_loadI ty31 rfl) (oK 20 rfl rfl rfl g7 (v_ln (l := y3.1.types) rfl (fun _ _ h => h) sl31) (oK 20 rfl rfl rfl g7 (v_eql rfl rfl) (oV (v_pick_t rfl g7 rfl) ?_))))
   exact hJ6 _ () h _ (ji 5 25 rfl rfl rfl)
  ·
   refine oP 20 rfl rfl g7 (oP 20 rfl rfl g7 (oP 20 rfl rfl g7 (oP 20 rfl rfl g7 (oV (v_pick_f rfl g7 rfl) ?_))))
   exact hJ6 _ () h _ (ji 5 25 rfl rfl rfl)

end Go.Proofs.YtiibmpdjkdjbiaaGreatDoor


namespace Go.Proofs.YtiibmpdjkdjbiaaGreatDoor
open Go.Sy
set_option maxRecDepth 4000
end Go.Proofs.YtiibmpdjkdjbiaaGreatDoor


namespace Go.Proofs.YtiibmpdjkdjbiaaGreatDoor
open Go.Sy
set_option maxRecDepth 4000
theorem law10_made_w : ∀ {a_tagging : Str} {a_t : Str} {r : GTab × Int × Int}, law10_made a_tagging a_t = some r → Ctr Tryz.prog 22 [isv (a_tagging), isv (a_t)] [] (fun R H => R = oneOf [isv (r.1), isv (r.2.1), isv (r.2.2)] ∧ H = []) := by
 intro a_tagging a_t r h
 unfold law10_made at h
 refine spec_intro Tryz.func22 rfl (by decide +kernel) (by rfl) fun w0 S0 hT => ?_
 refine wsr (oT (t_alloc _ ze33 fun b1 => oA rfl (oA rfl (rnf ?_))))
 refine wsr (oM rfl (asr_inv h fun q2 h => oV (v_cat rfl rfl q2) (asr_inv h fun q3 h => ?_)))
 refine oV (v_cat rfl rfl q3) (oM rfl (asr_inv h fun q4 h => oV (v_cat rfl rfl q4) (asr_inv h fun q5 h => ?_)))
 refine oV (v_cat rfl rfl q5) (cal_inv h fun y6 hy6 h => oT (t_call (r05_Parse_w hy6) hT (.same rfl .nil) .nil (fun R H' hR => ?_)))
 obtain ⟨rfl, rfl⟩ := hR
 refine oM rfl (oV (v_extract rfl rfl) (oV (v_extract rfl rfl) (oV (v_extract rfl rfl) (oT (t_alloc _ ze26 fun b7 => ?_)))))
 refine oT (t_storeC (y' := (y6.1 : GMod)) ty26 rfl rfl (fun _ _ h => h) .here rfl (rl_upd (upd_imm 7 .here rfl) (oA rfl (oA rfl (rnf ?_)))))
 refine w_seq (wsr (oM rfl (oV (v_neq rfl rfl) (rnf ?_))))
 refine w_condM h rfl (fun _ h => ?_) (fun _ h => ?_)
 ·
  refine wsr (oV (v_build (z := (GTab.mk (Str.mk []) ([] : (List Str)) ([] : (List Int)) ([] : (List GTyp)))) rfl bu33 ze33 .nil) (oM rfl (oT (t_storeC (y' := ((GTab.mk (Str.mk []) ([] : (List Str)) ([] : (List Int)) ([] : (List GTyp))) : GTab)) ty33 rfl rfl (fun _ _ h => h) .here rfl (oA rfl ?_)))))
  refine oA rfl (rnf (w_ret (ret_nxt (ret_post (.cell rfl .here ty33 (.tmp rfl (.tmp rfl .nil))) .nil ?_))))
  obtain rfl := Option.some.inj h
  exact ⟨rfl, rfl⟩
 ·
  refine wkf (wsr (oV (v_loadI ty26 rfl) (cal_inv h fun y8 hy8 h => oT (t_call (table_Make_w hy8) hT (.same rfl .nil) .nil (fun R H' hR => ?_)))))
  obtain ⟨rfl, rfl⟩ := hR
  refine oV (v_extract rfl rfl) (oV (v_extract rfl rfl) (oV (v_extract rfl rfl) (oT (t_storeC (y' := (y8.1 : GTab)) ty33 rfl rfl (fun _ _ h => h) .here rfl (oA rfl ?_)))))
  refine oA rfl (rnf (w_ret (ret_post (.cell rfl .here ty33 (.tmp rfl (.tmp rfl .nil))) .nil ?_)))
  obtain rfl := Option.some.inj h
  exact ⟨rfl, rfl⟩

end Go.Proofs.YtiibmpdjkdjbiaaGreatDoor


namespace Go.Proofs.YtiibmpdjkdjbiaaGreatDoor
open Go.Sy
set_option maxRecDepth 4000
theorem law10_TableWild_w : ∀ {a_kind : Int} {a_tagged : Bool} {a_optional : Bool} {a_ahead : Bool} {a_more : Bool} {r : Bool}, law10_TableWild a_kind a_tagged a_optional a_ahead a_more = some r → Ctr Tryz.prog 10 [isv (a_kind), isv (a_tagged), isv (a_optional), isv (a_ahead), isv (a_more)] [] (fun R H => R = oneOf [isv (r)] ∧ H = []) := by
 intro a_kind a_tagged a_optional a_ahead a_more r h
 unfold law10_TableWild at h
 refine spec_intro Tryz.func10 rfl (by decide +kernel) (by rfl) fun w0 S0 hT => ?_
 refine wsr (oA rfl (rnf (wsr (oM rfl ?_))))
 refine oV (v_toU Tryz.underlying3 Tryz.underlying59 rfl) (asr_inv h fun q1 h => oV (v_rem64 rfl rfl q1) (ck_inv h fun q2 h => oV (v_u64i Tryz.underlying59 Tryz.underlying3 rfl q2) ?_))
 refine oA rfl (rnf (wsr (oA rfl (rnf ?_))))
 refine w_seq (wsr (oM rfl (rnf (w_J (ι := Str) (γ := Unit) (fun q3 g3 => [(11, isv (q3))]) (fun q3 g3 => []) .nil h (fun q3 g3 h => ?_) (fun J4 h hJ4 => ?_)))))
 ·
  refine wsr (oM rfl (asr_inv h fun q6 h => oV (v_cat rfl rfl q6) (oA rfl ?_)))
  refine rnf (w_seq (wsr (oM rfl (oM rfl ?_))))
  refine rl_j (jb 31) je .nil h 3 rfl (fun q7 g7 h => ?_) (fun J8 h hJ8 => ?_)
  ·
   refine rnf (w_J (ι := Str) (γ := Unit) (fun q10 g10 => [(12, isv (q10))]) (fun q10 g10 => []) .nil h (fun q10 g10 h => ?_) (fun J11 h hJ11 => ?_))
   ·
    refine wsr (oM rfl (asr_inv h fun q13 h => oV (v_cat rfl rfl q13) (oA rfl ?_)))
    refine rnf (w_seq (wsr (oM rfl (rnf ?_))))
    refine w_J (ι := Str) (γ := Unit) (fun q14 g14 => [(13, isv (q14))]) (fun q14 g14 => []) .nil h (fun q14 g14 h => ?_) (fun J15 h hJ15 => ?_)
    ·
     refine w_seq (wsr (oM rfl (rnf (w_J (ι := Str) (γ := Unit) (fun q21 g21 => [(13, isv (q21))]) (fun q21 g21 => []) .nil h (fun q21 g21 h => ?_) (fun J22 h hJ22 => ?_)))))
     ·
      refine wsr (oT (t_buildSlice (l := ([(Str.mk [83, 69, 81, 85, 69, 78, 67, 69]), (Str.mk [83, 69, 84]), (Str.mk [67, 72, 79, 73, 67, 69])] : (List Str))) el22 (.cons rfl (fun _ _ h => h) (.cons rfl (fun _ _ h => h) (.cons rfl (fun _ _ h => h) .nil))) rfl rfl (oM rfl (cal_inv h fun y25 hy25 h => oV (v_ix (l := ([(Str.mk [83, 69, 81, 85, 69, 78, 67, 69]), (Str.mk [83, 69, 84]), (Str.mk [67, 72, 79, 73, 67, 69])] : (List Str))) rfl appv_isv rfl sl22 hy25) ?_))))
      refine oV (v_loadI ty9 rfl) (asr_inv h fun q26 h => oV (v_cat rfl rfl q26) (asr_inv h fun q27 h => oV (v_cat rfl rfl q27) ?_))
      refine oM rfl (asr_inv h fun q28 h => oV (v_cat rfl rfl q28) (asr_inv h fun q29 h => oV (v_cat rfl rfl q29) ?_))
      refine cal_inv h fun y30 hy30 h => oT (t_call (law10_made_w hy30) hT (.same rfl (.same rfl .nil)) .nil (fun R H' hR => ?_))
      obtain ⟨rfl, rfl⟩ := hR
      refine oM rfl (oV (v_extract rfl rfl) (oV (v_extract rfl rfl) (oV (v_extract rfl rfl) (oT (t_alloc _ ze33 fun b31 => ?_)))))
      refine oT (t_storeC (y' := (y30.1 : GTab)) ty33 rfl rfl (fun _ _ h => h) .here rfl (rl_upd (upd_imm 14 .here rfl) (oA rfl (oA rfl (rnf ?_)))))
      refine wsr (oM rfl (oM rfl (rl_j (jb 74) je .nil h 11 rfl (fun q32 g32 h => ?_) (fun J33 h hJ33 => ?_))))
      ·
       refine oA rfl (rnf (wsr (cal_inv h fun y41 hy41 h => oT (t_call (law10_awake_w hy41) hT .nil .nil (fun R H' hR => ?_)))))
       obtain ⟨rfl, rfl⟩ := hR
       refine oM rfl (rl_j (jb 90) je .nil h 14 rfl (fun q42 g42 h => ?_) (fun J43 h hJ43 => ?_))
       ·
        refine oA rfl (rnf (w_ret (ret_post (.tmp rfl .nil) .nil ?_)))
        obtain rfl := Option.some.inj h
        exact ⟨rfl, rfl⟩
       ·
        refine rl_condM (j := 76) h rfl (fun g44 h => ?_) (fun g44 h => ?_)
        ·
         refine oK 76 rfl rfl rfl g44 (v_move rfl) (oK 76 rfl rfl rfl g44 (v_move rfl) (rl_j (jb 81) je .nil h 3 rfl (fun q45 g45 h => ?_) (fun J46 h hJ46 => ?_)))
         ·
          refine oK 76 rfl rfl rfl g44 (v_move rfl) (rl_j (jb 89) je .nil h 7 rfl (fun q48 g48 h => ?_) (fun J49 h hJ49 => ?_))
          ·
           exact oV (v_pick_t rfl g44 rfl) (hJ43 _ () h _ (ji 6 90 rfl rfl rfl))
          ·
           refine rl_condM (j := 82) h rfl (fun g50 h => ?_) (fun g50 h => ?_)
           ·
            refine oP 82 rfl rfl g50 (oP 82 rfl rfl g50 (oP 82 rfl rfl g50 (op_passU rfl (dj := 85) rfl (op_passU rfl (dj := 85) rfl ?_))))
            exact oP 82 rfl rfl g50 (oK 76 rfl rfl rfl g44 (v_pick_t rfl g50 rfl) (hJ49 _ () h _ (ji 7 89 rfl rfl rfl)))
           ·
            refine oK 82 rfl rfl rfl g50 (v_move rfl) (oK 82 rfl rfl rfl g50 (v_not rfl) (oK 82 rfl rfl rfl g50 (v_move rfl) (rl_j (jb 88) je .nil h 3 rfl (fun q51 g51 h => ?_) (fun J52 h hJ52 => ?_))))
            ·
             exact oK 76 rfl rfl rfl g44 (v_pick_f rfl g50 rfl) (hJ49 _ () h _ (ji 5 89 rfl rfl rfl))
            ·
             refine rl_condM (j := 85) h rfl (fun g53 h => ?_) (fun g53 h => ?_)
             ·
              exact oK 85 rfl rfl rfl g53 (v_move rfl) (oK 85 rfl rfl rfl g53 (v_eql rfl rfl) (oK 82 rfl rfl rfl g50 (v_pick_t rfl g53 rfl) (hJ52 _ () h _ (ji 3 88 rfl rfl rfl))))
             ·
              exact oP 85 rfl rfl g53 (oP 85 rfl rfl g53 (oK 82 rfl rfl rfl g50 (v_pick_f rfl g53 rfl) (hJ52 _ () h _ (ji 3 88 rfl rfl rfl))))
         ·
          refine rl_condM (j := 78) h rfl (fun g47 h => ?_) (fun g47 h => ?_)
          ·
           exact oK 78 rfl rfl rfl g47 (v_move rfl) (oK 78 rfl rfl rfl g47 (v_eql rfl rfl) (oK 76 rfl rfl rfl g44 (v_pick_t rfl g47 rfl) (hJ46 _ () h _ (ji 3 81 rfl rfl rfl))))
          ·
           exact oP 78 rfl rfl g47 (oP 78 rfl rfl g47 (oK 76 rfl rfl rfl g44 (v_pick_f rfl g47 rfl) (hJ46 _ () h _ (ji 3 81 rfl rfl rfl))))
        ·
         refine oP 76 rfl rfl g44 (oP 76 rfl rfl g44 (op_passU rfl (dj := 78) rfl (op_passU rfl (dj := 78) rfl (oP 76 rfl rfl g44 ?_))))
         refine oP 76 rfl rfl g44 (op_passU rfl (dj := 82) rfl (op_passU rfl (dj := 82) rfl (op_passU rfl (dj := 82) rfl (op_passU rfl (dj := 85) rfl ?_))))
         exact op_passU rfl (dj := 85) rfl (op_passU rfl (dj := 82) rfl (oP 76 rfl rfl g44 (oV (v_pick_f rfl g44 rfl) (hJ43 _ () h _ (ji 14 90 rfl rfl rfl)))))
      ·
       refine rl_condM (j := 63) h rfl (fun g34 h => ?_) (fun g34 h => ?_)
       ·
        refine oP 63 rfl rfl g34 (oP 63 rfl rfl g34 (oP 63 rfl rfl g34 (op_passU rfl (dj := 66) rfl (op_passU rfl (dj := 66) rfl ?_))))
        refine oP 63 rfl rfl g34 (oP 63 rfl rfl g34 (op_passU rfl (dj := 70) rfl (op_passU rfl (dj := 70) rfl (oP 63 rfl rfl g34 ?_))))
        exact oV (v_pick_t rfl g34 rfl) (hJ33 _ () h _ (ji 11 74 rfl rfl rfl))
       ·
        refine oK 63 rfl rfl rfl g34 (v_move rfl) (oK 63 rfl rfl rfl g34 (v_eql rfl rfl) (oK 63 rfl rfl rfl g34 (v_move rfl) (rl_j (jb 69) je .nil h 3 rfl (fun q35 g35 h => ?_) (fun J36 h hJ36 => ?_))))
        ·
         refine oK 63 rfl rfl rfl g34 (v_move rfl) (rl_j (jb 73) je .nil h 3 rfl (fun q38 g38 h => ?_) (fun J39 h hJ39 => ?_))
         ·
          exact oV (v_pick_f rfl g34 rfl) (hJ33 _ () h _ (ji 7 74 rfl rfl rfl))
         ·
          refine rl_condM (j := 70) h rfl (fun g40 h => ?_) (fun g40 h => ?_)
          ·
           exact oK 70 rfl rfl rfl g40 (v_move rfl) (oK 70 rfl rfl rfl g40 (v_not rfl) (oK 63 rfl rfl rfl g34 (v_pick_t rfl g40 rfl) (hJ39 _ () h _ (ji 3 73 rfl rfl rfl))))
          ·
           exact oP 70 rfl rfl g40 (oP 70 rfl rfl g40 (oK 63 rfl rfl rfl g34 (v_pick_f rfl g40 rfl) (hJ39 _ () h _ (ji 3 73 rfl rfl rfl))))
        ·
         refine rl_condM (j := 66) h rfl (fun g37 h => ?_) (fun g37 h => ?_)
         ·
          exact oK 66 rfl rfl rfl g37 (v_move rfl) (oK 66 rfl rfl rfl g37 (v_not rfl) (oK 63 rfl rfl rfl g34 (v_pick_t rfl g37 rfl) (hJ36 _ () h _ (ji 3 69 rfl rfl rfl))))
         ·
          exact oP 66 rfl rfl g37 (oP 66 rfl rfl g37 (oK 63 rfl rfl rfl g34 (v_pick_f rfl g37 rfl) (hJ36 _ () h _ (ji 3 69 rfl rfl rfl))))
     ·
      refine w_condM h rfl (fun _ h => ?_) (fun _ h => ?_)
      ·
       refine w_region (oM rfl (asr_inv h fun q23 h => oV (v_cat rfl rfl q23) (oA rfl ?_)))
       exact rl_nil (hJ22 _ () h _ (ji 3 13 rfl rfl rfl))
      ·
       exact w_skip (hJ22 _ () h _ (ji 0 13 rfl rfl rfl))
    ·
     refine w_condM h rfl (fun _ h => ?_) (fun _ h => ?_)
     ·
      refine wsr (oA rfl (rnf (w_seq (wsr ?_))))
      refine oM rfl (oV (v_eql rfl rfl) (rnf (w_J (ι := Str) (γ := Unit) (fun q16 g16 => [(13, isv (q16))]) (fun q16 g16 => []) .nil h (fun q16 g16 h => ?_) (fun J17 h hJ17 => ?_))))
      ·
       refine w_region (oM rfl (asr_inv h fun q19 h => oV (v_cat rfl rfl q19) (oM rfl ?_)))
       exact asr_inv h fun q20 h => oV (v_cat rfl rfl q20) (oA rfl (rl_nil (hJ15 _ () h _ (ji 9 13 rfl rfl rfl))))
      ·
       refine w_condM h rfl (fun _ h => ?_) (fun _ h => ?_)
       ·
        refine w_region (oM rfl (asr_inv h fun q18 h => oV (v_cat rfl rfl q18) (oA rfl ?_)))
        exact rl_nil (hJ17 _ () h _ (ji 3 13 rfl rfl rfl))
       ·
        exact w_skip (hJ17 _ () h _ (ji 0 13 rfl rfl rfl))
     ·
      exact w_skip (hJ15 _ () h _ (ji 0 13 rfl rfl rfl))
   ·
    refine w_condM h rfl (fun _ h => ?_) (fun _ h => ?_)
    ·
     refine w_region (oM rfl (asr_inv h fun q12 h => oV (v_cat rfl rfl q12) (oA rfl ?_)))
     exact rl_nil (hJ11 _ () h _ (ji 3 12 rfl rfl rfl))
    ·
     exact w_skip (hJ11 _ () h _ (ji 0 12 rfl rfl rfl))
  ·
   refine rl_condM (j := 28) h rfl (fun g9 h => ?_) (fun g9 h => ?_)
   ·
    exact oK 28 rfl rfl rfl g9 (v_move rfl) (oK 28 rfl rfl rfl g9 (v_eql rfl rfl) (oV (v_pick_t rfl g9 rfl) (hJ8 _ () h _ (ji 3 31 rfl rfl rfl))))
   ·
    exact oP 28 rfl rfl g9 (oP 28 rfl rfl g9 (oV (v_pick_f rfl g9 rfl) (hJ8 _ () h _ (ji 3 31 rfl rfl rfl))))
 ·
  refine w_condM h rfl (fun _ h => ?_) (fun _ h => ?_)
  ·
   refine w_region (oM rfl (asr_inv h fun q5 h => oV (v_cat rfl rfl q5) (oA rfl ?_)))
   exact rl_nil (hJ4 _ () h _ (ji 3 11 rfl rfl rfl))
  ·
   exact w_skip (hJ4 _ () h _ (ji 0 11 rfl rfl rfl))

end Go.Proofs.YtiibmpdjkdjbiaaGreatDoor

