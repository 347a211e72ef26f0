/- ValueDeep: for every value of its arguments the law returns true, and each argument reads behind the call as it read before; what the tables of utf8 hold is tied to the program's text. No condition. -/
import Derived.Test.YtnnijoepfgnlfaaGreatDoorVdDeepClaimA
import Derived.Test.YtnnijoepfgnlfaaGreatDoorVdDeepClaimB
import Derived.Test.YtnnijoepfgnlfaaGreatDoorVdDeepClaimC
import Derived.Test.YtnnijoepfgnlfaaGreatDoorVdDeepClaimD
import Derived.KernelRfl
import Derived.Test.YtnnijoepfgnlfaaGreatDoorRows
import Derived.Test.YtnnijoepfgnlfaaGreatDoorTie
import Derived.Test.YtnnijoepfgnlfaaGreatDoorCards
import Derived.SevenTiedAt
set_option linter.unusedVariables false
set_option linter.unusedSimpArgs false

namespace Go.Proofs.YtnnijoepfgnlfaaGreatDoor
open Go.Sy
set_option maxRecDepth 4000
theorem order_places_w : ∀ {a_from_ : Int} {a_to : Int} {r : (List Int)}, order_places a_from_ a_to = some r → Ctr Tryz.prog 48 [isv (a_from_), isv (a_to)] [] (fun R H => ∃ u1 : Vt, R = oneOf [vecv u1 ((r).length)] ∧ H = [vecE u1 (r)]) := by
 intro a_from_ a_to r h
 unfold order_places at h
 refine spec_intro Tryz.func48 rfl (by decide +kernel) (by rfl) fun w0 S0 hT => ?_
 refine wsr (oA rfl (rl_upd (upd_vec (α := Int)) (rl_upd (upd_slot 4 rfl nilvV) (rnf ?_))))
 refine wsr (oA rfl (rl_upd (upd_vec (α := Int)) (rl_upd (upd_slot 5 rfl nilvV) (rnf ?_))))
 refine w_seq (wsr (oM rfl (oA rfl (rnf ?_))))
 refine w_block (w_lp (ι := (List Int) × Int) (γ := Vt) (fun q3 g3 => [(5, vecv g3 (q3.1.length)), (6, isv (q3.2))]) (fun q3 g3 => [vecE g3 (q3.1 : List Int)]) h (none) (mod_cons (j := 5) rfl (vecvE (by first | rfl | simp)) (mod_cons (j := 6) rfl (fun _ _ h => h) mod_nil)) (.cons .here .nil) (fun L4 q3 g3 Q13 h hL4 eL4 rL4 => ?_))
 refine w_seq (wsr (oM rfl (oM rfl (oV (v_lss rfl rfl) ?_))))
 refine rnf (w_condM h rfl (fun _ h => ?_) (fun _ h => ?_))
 ·
  refine wkf (w_seq (w_block (w_region (oM rfl ?_))))
  refine oM rfl (oT (t_buildSlice (l := ([q3.2] : (List Int))) el23 (.cons rfl (fun _ _ h => h) .nil) rfl rfl (asr_inv h fun q11 h => oT (t_vappF (m := ([q3.2] : (List Int))) ap23_23 rfl rfl appv_isv .here (by first | rfl | simp) q11 fun v10 => ?_))))
  refine oA rfl (rl_nil (fin_block (fin_nxt (w_region ?_))))
  refine oM rfl (ck_inv h fun q12 h => oV (v_add rfl rfl q12) (oA rfl (rl_nil ?_)))
  exact hL4 _ (v10) h _ (join_imp 13 rfl rfl (mod_cons (j := 5) rfl (vecvE (by first | rfl | simp)) (mod_cons (j := 6) rfl (fun _ _ h => h) mod_nil)) (.cons .here (.cons .here .nil)))
 ·
  refine w_exit (exi_nxt (eL4 _ _ (exi_block (fin_nxt ?_))))
  refine wsr (oM rfl (oA rfl (rnf (w_ret ?_))))
  refine ret_post (.as rfl (vecvE (by first | rfl | simp)) .nil) (.cons .here .nil) ?_
  obtain rfl := Option.some.inj h
  exact ⟨g3, rfl, rfl⟩


theorem order_Slots_w : ∀ {a_t : GTab} {a_i : Int} {r : (List (List Int))}, order_Slots a_t a_i = some r → Ctr Tryz.prog 21 [isv (a_t), isv (a_i)] [] (fun R H => R = oneOf [isv (r)] ∧ H = []) := by
 intro a_t a_i r h
 unfold order_Slots at h
 refine spec_intro Tryz.func21 rfl (by decide +kernel) (by rfl) fun w0 S0 hT => ?_
 refine wsr (oT (t_boxIC (y := a_t) rfl (fun _ _ h => h) (oA rfl (rl_upd (upd_tok) (rl_upd (upd_vec (α := NL Int)) ?_)))))
 refine rl_upd (upd_slot 4 rfl nilvV) (rnf (wsr (oV (v_loadI ty26 rfl) (oM rfl ?_))))
 refine cal_inv h fun y3 hy3 h => oT (t_call (order_there_w hy3) hT (.same rfl (.same rfl .nil)) .nil (fun R H' hR => ?_))
 obtain ⟨rfl, rfl⟩ := hR
 refine oT (t_alloc _ ze87 fun b4 => oT (t_storeC (y' := (y3 : GTyp)) ty87 rfl rfl (fun _ _ h => h) .here rfl (rl_upd (upd_imm 5 .here rfl) (rnf (w_seq ?_)))))
 refine wsr (oV (v_fi rfl GTyp.f0 fd87_0 rfl (z := y3.kind)) (oV (v_loadI ty3 rfl) (oV (v_neq rfl rfl) (oM rfl ?_))))
 refine rl_j (jb 21) je .nil h 4 rfl (fun q5 g5 h => ?_) (fun J6 h hJ6 => ?_)
 ·
  refine oM rfl (rl_j (jb 26) je .nil h 4 rfl (fun q8 g8 h => ?_) (fun J9 h hJ9 => ?_))
  ·
   refine rnf (w_condM h rfl (fun _ h => ?_) (fun _ h => ?_))
   ·
    refine wsr (oA rfl (rl_upd (upd_tok) (rl_upd (upd_vec (α := NL Int)) (rl_upd (upd_slot 4 rfl nilvV) ?_))))
    refine rnf (w_ret (ret_nxt (ret_upd (upd_frzF 4 .here rfl (by first | rfl | simp)) ?_)))
    refine ret_upd (upd_slot 4 rfl (nest_isv (t := none) (L := (([] : (List (List Int))) : List (List Int))))) (ret_post (.tmp rfl .nil) .nil ?_)
    obtain rfl := Option.some.inj h
    exact ⟨rfl, rfl⟩
   ·
    refine wkf (wsr (oA rfl (rl_upd (upd_tok) (rl_upd (upd_vec (α := NL Int)) ?_))))
    refine rl_upd (upd_slot 6 rfl nilvV) (rnf (w_seq (wsr (oV (v_fi rfl GTyp.f5 fd87_5 rfl (z := y3.root)) ?_))))
    refine oV (v_loadI ty3 rfl) (oV (v_max rfl rfl) (oV (v_fi rfl GTyp.f4 fd87_4 rfl (z := y3.fields)) (oV (v_loadI ty85 rfl) (oV (v_ln (l := y3.fields) rfl (fun _ _ h => h) sl85) ?_))))
    refine cal_inv h fun y15 hy15 h => oT (t_call (order_places_w hy15) hT (.same rfl (.same rfl .nil)) .nil (fun R H' hR => ?_))
    obtain ⟨v16, rfl, rfl⟩ := hR
    refine oV (v_vlen sl23 rfl) (oM rfl (rnf (w_block (w_lp (ι := (List (List Int)) × Int) (γ := Vt × Tok) (fun q17 g17 => [(6, vecv g17.1 (q17.1.length)), (35, isv (q17.2))]) (fun q17 g17 => [vecE g17.1 (nestL g17.2 (q17.1 : List (List Int))), tokE g17.2]) h (none, none) (mod_cons (j := 6) rfl (vecvE (by first | rfl | simp)) (mod_cons (j := 35) rfl (fun _ _ h => h) mod_nil)) (.cons (.there .here) (.cons (.there .here) .nil)) (fun L18 q17 g17 Q79 h hL18 eL18 rL18 => ?_)))))
    refine wsr (oV (v_lss rfl rfl) (rnf (w_seq (w_condM h rfl (fun _ h => ?_) (fun _ h => ?_)))))
    ·
     refine wkf (w_seq (w_J (ι := (List (List Int))) (γ := Vt × Tok) (fun q49 g49 => [(6, vecv g49.1 (q49.length))]) (fun q49 g49 => [vecE g49.1 (nestL g49.2 (q49 : List (List Int))), tokE g49.2]) (.cons .here (.cons .here .nil)) h (fun q49 g49 h => ?_) (fun J50 h hJ50 => ?_)))
     ·
      refine w_region (ck_inv h fun q78 h => oV (v_add rfl rfl q78) (oM rfl (rl_nil ?_)))
      exact hL18 _ (g49.1, g49.2) h _ (join_imp 6 rfl rfl (mod_cons (j := 6) rfl (vecvE (by first | rfl | simp)) (mod_cons (j := 35) rfl (fun _ _ h => h) mod_nil)) (.cons .here (.cons .here (.cons .here (.cons .here (.cons .here .nil))))))
     ·
      refine w_block (wsr (asd_inv h fun q51 h => oV (v_vidx (α := Int) sl23 rfl rfl q51.1 q51.2) (cal_inv h fun y52 hy52 h => ?_)))
      refine oT (t_vload ty3 rfl (.there (.there .here)) hy52 (oA rfl (rnf (wsr (oM rfl ?_)))))
      refine oV (v_vlen sl36 rfl) (ck_inv h fun q53 h => oV (v_sub rfl rfl q53) (oA rfl (rnf ?_)))
      refine w_seq (wsr (oV (v_fi rfl GTyp.f4 fd87_4 rfl (z := y3.fields)) (oV (v_loadI ty85 rfl) (oM rfl ?_))))
      refine cal_inv h fun y54 hy54 h => oV (v_ix (l := y3.fields) rfl (fun _ _ h => h) rfl sl85 hy54) (oV (v_fi rfl GFld.f5 fd92_5 rfl (z := y54.group)) (oV (v_loadI ty3 rfl) (oA rfl ?_)))
      refine rnf (wsr (oV (v_fi rfl GTyp.f0 fd87_0 rfl (z := y3.kind)) (oV (v_loadI ty3 rfl) (oV (v_neq rfl rfl) ?_))))
      refine oM rfl (rl_j (jb 54) je .nil h 3 rfl (fun q55 g55 h => ?_) (fun J56 h hJ56 => ?_))
      ·
       refine oM rfl (rl_j (jb 58) je .nil h 3 rfl (fun q58 g58 h => ?_) (fun J59 h hJ59 => ?_))
       ·
        refine oM rfl (rl_j (jb 69) je .nil h 10 rfl (fun q61 g61 h => ?_) (fun J62 h hJ62 => ?_))
        ·
         refine rnf (w_condM h rfl (fun _ h => ?_) (fun _ h => ?_))
         ·
          refine wsr (oM rfl (oM rfl (oM rfl (oM rfl ?_))))
          refine asd_inv h fun q66 h => oV (v_vidx (α := NL Int) sl36 rfl rfl q66.1 q66.2) (asd_inv h fun q67 h => cal_inv h fun y68 hy68 h => oT (t_vload ty23 rfl .here (nestL_last q67 hy68) ?_))
          refine rl_upd (upd_slot 75 rfl nl_app) (oM rfl (oT (t_buildSlice (l := ([y52] : (List Int))) el23 (.cons rfl (fun _ _ h => h) .nil) rfl rfl (asr_inv h fun q71 h => oT (t_appC (l := y68) (m := ([y52] : (List Int))) ap23_23 rfl (fun _ _ h => h) rfl appv_isv (.there .here) q71 fun t70 => ?_)))))
          refine asd_inv h fun q72 h => oV (v_vidx (α := NL Int) sl36 rfl rfl q72.1 q72.2) (asd_inv h fun q73 h => cal_inv h fun y74 hy74 h => rl_upd (upd_slot 78 rfl app_nl) ?_)
          refine oT (t_vstore ty23 rfl rfl (.there .here) (nestL_last q73 hy74) (rl_upd (upd_vecq .here (nestL_set q73)) (rl_upd (upd_slot (R' := vecv g17.1 (q17.1.set ((((q17.1.length : Nat) : Int) - (1 : Int)).toNat) (y68 ++ ([y52] : (List Int)))).length) 6 rfl (vecvE (by simp))) ?_)))
          refine rl_upd (upd_slot (R' := vecv g17.1 (q17.1.set ((((q17.1.length : Nat) : Int) - (1 : Int)).toNat) (y68 ++ ([y52] : (List Int)))).length) 39 rfl (vecvE (by simp))) ?_
          refine rl_upd (upd_slot (R' := vecv g17.1 (q17.1.set ((((q17.1.length : Nat) : Int) - (1 : Int)).toNat) (y68 ++ ([y52] : (List Int)))).length) 70 rfl (vecvE (by simp))) ?_
          refine rl_upd (upd_slot (R' := vecv g17.1 (q17.1.set ((((q17.1.length : Nat) : Int) - (1 : Int)).toNat) (y68 ++ ([y52] : (List Int)))).length) 72 rfl (vecvE (by simp))) ?_
          exact rnf (w_exit (exi_nxt (exi_block (hJ50 _ (g17.1, t70) h _ (join_imp 39 rfl rfl (mod_cons (j := 6) rfl (vecvE (by first | rfl | simp)) mod_nil) (.cons .here (.cons .here (.cons .here (.cons .here (.cons .here .nil))))))))))
         ·
          refine wkf (w_region (oM rfl (oM rfl (oT (t_buildSlice (l := ([y52] : (List Int))) el23 (.cons rfl (fun _ _ h => h) .nil) rfl rfl ?_)))))
          refine rl_upd (upd_tok) (oT (t_buildSlice (l := [NL.mk (([y52] : (List Int))) (some none)]) el36 (.cons rfl app_nl .nil) rfl rfl (asr_inv h fun q77 h => oT (t_vappF (m := [NL.mk (([y52] : (List Int))) (some none)]) ap36_36 rfl rfl appv_isv (.there .here) (by first | rfl | simp) (by rw [nestL_length]; exact q77) fun v76 => ?_))))
          refine rl_upd (upd_nest .here) (rl_upd (upd_slot (R' := vecv v76 (q17.1 ++ [([y52] : (List Int))]).length) 84 rfl (vecvE (by simp))) ?_)
          exact oA rfl (rl_nil (fin_block (hJ50 _ (v76, none) h _ (join_imp 30 rfl rfl (mod_cons (j := 6) rfl (vecvE (by first | rfl | simp)) mod_nil) (.cons .here (.cons .here (.cons (.there .here) (.cons (.there .here) (.cons (.there .here) .nil)))))))))
        ·
         refine rl_condM (j := 59) h rfl (fun g63 h => ?_) (fun g63 h => ?_)
         ·
          refine oK 59 rfl rfl rfl g63 (v_fi rfl GTyp.f4 fd87_4 rfl (z := y3.fields)) (oK 59 rfl rfl rfl g63 (v_loadI ty85 rfl) (oK 59 rfl rfl rfl g63 (v_move rfl) (ck_inv h fun q64 h => oK 59 rfl rfl rfl g63 (v_sub rfl rfl q64) ?_)))
          refine cal_inv h fun y65 hy65 h => oK 59 rfl rfl rfl g63 (v_ix (l := y3.fields) rfl (fun _ _ h => h) rfl sl85 hy65) (oK 59 rfl rfl rfl g63 (v_fi rfl GFld.f5 fd92_5 rfl (z := y65.group)) (oK 59 rfl rfl rfl g63 (v_loadI ty3 rfl) (oK 59 rfl rfl rfl g63 (v_move rfl) ?_)))
          exact oK 59 rfl rfl rfl g63 (v_eql rfl rfl) (oV (v_pick_t rfl g63 rfl) (hJ62 _ () h _ (join_imp 10 rfl rfl (mod_cons (j := 69) rfl (fun _ _ h => h) mod_nil) (.cons .here (.cons .here (.cons .here (.cons .here (.cons .here .nil))))))))
         ·
          refine oP 59 rfl rfl g63 (oP 59 rfl rfl g63 (oP 59 rfl rfl g63 (oP 59 rfl rfl g63 (oP 59 rfl rfl g63 ?_))))
          refine oP 59 rfl rfl g63 (oP 59 rfl rfl g63 (oP 59 rfl rfl g63 (oP 59 rfl rfl g63 (oV (v_pick_f rfl g63 rfl) ?_))))
          exact hJ62 _ () h _ (join_imp 10 rfl rfl (mod_cons (j := 69) rfl (fun _ _ h => h) mod_nil) (.cons .here (.cons .here (.cons .here (.cons .here (.cons .here .nil))))))
       ·
        refine rl_condM (j := 55) h rfl (fun g60 h => ?_) (fun g60 h => ?_)
        ·
         exact oK 55 rfl rfl rfl g60 (v_move rfl) (oK 55 rfl rfl rfl g60 (v_geq rfl rfl) (oV (v_pick_t rfl g60 rfl) (hJ59 _ () h _ (join_imp 3 rfl rfl (mod_cons (j := 58) rfl (fun _ _ h => h) mod_nil) (.cons .here (.cons .here (.cons .here (.cons .here (.cons .here .nil)))))))))
        ·
         exact oP 55 rfl rfl g60 (oP 55 rfl rfl g60 (oV (v_pick_f rfl g60 rfl) (hJ59 _ () h _ (join_imp 3 rfl rfl (mod_cons (j := 58) rfl (fun _ _ h => h) mod_nil) (.cons .here (.cons .here (.cons .here (.cons .here (.cons .here .nil)))))))))
      ·
       refine rl_condM (j := 51) h rfl (fun g57 h => ?_) (fun g57 h => ?_)
       ·
        exact oK 51 rfl rfl rfl g57 (v_move rfl) (oK 51 rfl rfl rfl g57 (v_gtr rfl rfl) (oV (v_pick_t rfl g57 rfl) (hJ56 _ () h _ (join_imp 3 rfl rfl (mod_cons (j := 54) rfl (fun _ _ h => h) mod_nil) (.cons .here (.cons .here (.cons .here (.cons .here (.cons .here .nil)))))))))
       ·
        exact oP 51 rfl rfl g57 (oP 51 rfl rfl g57 (oV (v_pick_f rfl g57 rfl) (hJ56 _ () h _ (join_imp 3 rfl rfl (mod_cons (j := 54) rfl (fun _ _ h => h) mod_nil) (.cons .here (.cons .here (.cons .here (.cons .here (.cons .here .nil)))))))))
    ·
     refine w_exit (exi_nxt (eL18 _ _ (exi_block (fin_nxt ?_))))
     refine wsr (oM rfl (oA rfl (rnf (w_ret ?_))))
     refine ret_upd (upd_frzF 4 .here rfl (by first | rfl | simp)) ?_
     refine ret_upd (upd_slot 4 rfl (nest_isv (t := g17.2) (L := (q17.1 : List (List Int))))) (ret_post (.tmp rfl .nil) .nil ?_)
     obtain rfl := Option.some.inj h
     exact ⟨rfl, rfl⟩
  ·
   refine rl_condM (j := 22) h rfl (fun g10 h => ?_) (fun g10 h => ?_)
   ·
    exact oK 22 rfl rfl rfl g10 (v_fi rfl GTyp.f0 fd87_0 rfl (z := y3.kind)) (oK 22 rfl rfl rfl g10 (v_loadI ty3 rfl) (oK 22 rfl rfl rfl g10 (v_neq rfl rfl) (oV (v_pick_t rfl g10 rfl) (hJ9 _ () h _ (join_imp 4 rfl rfl (mod_cons (j := 26) rfl (fun _ _ h => h) mod_nil) (.cons .here (.cons .here .nil)))))))
   ·
    exact oP 22 rfl rfl g10 (oP 22 rfl rfl g10 (oP 22 rfl rfl g10 (oV (v_pick_f rfl g10 rfl) (hJ9 _ () h _ (join_imp 4 rfl rfl (mod_cons (j := 26) rfl (fun _ _ h => h) mod_nil) (.cons .here (.cons .here .nil)))))))
 ·
  refine rl_condM (j := 17) h rfl (fun g7 h => ?_) (fun g7 h => ?_)
  ·
   exact oK 17 rfl rfl rfl g7 (v_fi rfl GTyp.f0 fd87_0 rfl (z := y3.kind)) (oK 17 rfl rfl rfl g7 (v_loadI ty3 rfl) (oK 17 rfl rfl rfl g7 (v_neq rfl rfl) (oV (v_pick_t rfl g7 rfl) (hJ6 _ () h _ (join_imp 4 rfl rfl (mod_cons (j := 21) rfl (fun _ _ h => h) mod_nil) (.cons .here (.cons .here .nil)))))))
  ·
   exact oP 17 rfl rfl g7 (oP 17 rfl rfl g7 (oP 17 rfl rfl g7 (oV (v_pick_f rfl g7 rfl) (hJ6 _ () h _ (join_imp 4 rfl rfl (mod_cons (j := 21) rfl (fun _ _ h => h) mod_nil) (.cons .here (.cons .here .nil)))))))


theorem tags_Less_w : ∀ {a_a : Tag} {a_b : Tag} {r : Bool}, tags_Less a_a a_b = some r → Ctr Tryz.prog 42 [isv (a_a), isv (a_b)] [] (fun R H => R = oneOf [isv (r)] ∧ H = []) := by
 intro a_a a_b r h
 unfold tags_Less at h
 refine spec_intro Tryz.func42 rfl (by decide +kernel) (by rfl) fun w0 S0 hT => ?_
 refine wsr (oT (t_boxIC (y := a_a) rfl (fun _ _ h => h) (oT (t_boxIC (y := a_b) rfl (fun _ _ h => h) (oA rfl (rnf ?_))))))
 refine w_seq (wsr (oV (v_fi rfl Tag.f0 fd31_0 rfl (z := a_a.cls)) (oV (v_loadI ty3 rfl) (oV (v_fi rfl Tag.f0 fd31_0 rfl (z := a_b.cls)) ?_))))
 refine oV (v_loadI ty3 rfl) (oV (v_neq rfl rfl) (rnf (w_condM h rfl (fun _ h => ?_) (fun _ h => ?_))))
 ·
  refine wsr (oV (v_fi rfl Tag.f0 fd31_0 rfl (z := a_a.cls)) (oV (v_loadI ty3 rfl) (oV (v_fi rfl Tag.f0 fd31_0 rfl (z := a_b.cls)) (oV (v_loadI ty3 rfl) ?_))))
  refine oV (v_lss rfl rfl) (oA rfl (rnf (w_ret (ret_nxt ?_))))
  refine ret_post (.tmp rfl .nil) .nil ?_
  obtain rfl := Option.some.inj h
  exact ⟨rfl, rfl⟩
 ·
  refine wkf (wsr (oV (v_fi rfl Tag.f1 fd31_1 rfl (z := a_a.num)) (oV (v_loadI ty3 rfl) (oV (v_fi rfl Tag.f1 fd31_1 rfl (z := a_b.num)) ?_))))
  refine oV (v_loadI ty3 rfl) (oV (v_lss rfl rfl) (oA rfl (rnf (w_ret ?_))))
  refine ret_post (.tmp rfl .nil) .nil ?_
  obtain rfl := Option.some.inj h
  exact ⟨rfl, rfl⟩


theorem value_checker_raws_w : ∀ {a_c : GChk} {a_i : Int} {a_v : Val} {b_a_c : Nat} {r : Bool × GChk}, value_checker_raws a_c a_i a_v = some r → Ctr Tryz.prog 125 [ptrv b_a_c (Fld.id GChk), isv (a_i), isv (a_v)] [boxE b_a_c (a_c : GChk)] (fun R H => R = oneOf [isv (r.1)] ∧ H = [boxE b_a_c (r.2)]) := by
 intro a_c a_i a_v b_a_c r h
 unfold value_checker_raws at h
 refine spec_intro Tryz.func125 rfl (by decide +kernel) (by rfl) fun w0 S0 hT => ?_
 refine wsr (oT (t_boxIC (y := a_v) rfl (fun _ _ h => h) (oA rfl (rnf (wsr ?_)))))
 refine oM rfl (oV (v_nilCheck rfl) (oV (v_fa rfl GChk.f0 fd103_0) (oV (v_fa rfl GTbd.f0 fd101_0) (oV (v_fa rfl GTab.f3 fd26_3) ?_))))
 refine oT (t_loadC (R := isv (a_c.tabled.t.types)) ty24 rfl .here (fun _ _ h => h) (oM rfl (cal_inv h fun y1 hy1 h => oV (v_ix (l := a_c.tabled.t.types) rfl (fun _ _ h => h) rfl sl24 hy1) (oV (v_loadI ty87 rfl) ?_))))
 refine oT (t_alloc _ ze87 fun b2 => oT (t_storeC (y' := (y1 : GTyp)) ty87 rfl rfl (fun _ _ h => h) .here rfl (rl_upd (upd_imm 7 .here rfl) (rnf (w_seq ?_)))))
 refine wsr (oV (v_fi rfl Val.f5 fd46_5 rfl (z := a_v.more)) (oV (v_loadI ty44 rfl) (oV (v_ln (l := a_v.more) rfl (fun _ _ h => h) sl44) (oV (v_eql rfl rfl) ?_))))
 refine rnf (w_condM h rfl (fun _ h => ?_) (fun _ h => ?_))
 ·
  refine wsr (oV (v_fi rfl Val.f4 fd46_4 rfl (z := a_v.rule)) (oV (v_loadI ty3 rfl) (oV (v_eql rfl rfl) (oA rfl ?_))))
  refine rnf (w_ret (ret_nxt (ret_post (.tmp rfl .nil) (.cons .here .nil) ?_)))
  obtain rfl := Option.some.inj h
  exact ⟨rfl, rfl⟩
 ·
  refine wkf (w_seq (wsr (oV (v_fi rfl GTyp.f6 fd87_6 rfl (z := y1.more)) (oV (v_loadI ty4 rfl) ?_))))
  refine oV (v_not rfl) (oM rfl (rl_j (jb 42) je .nil h 9 rfl (fun q3 g3 h => ?_) (fun J4 h hJ4 => ?_)))
  ·
   refine rnf (w_condM h rfl (fun _ h => ?_) (fun _ h => ?_))
   ·
    refine wsr (oA rfl (rnf (w_ret (ret_nxt ?_))))
    refine ret_post (.tmp rfl .nil) (.cons .here .nil) ?_
    obtain rfl := Option.some.inj h
    exact ⟨rfl, rfl⟩
   ·
    refine wkf (wsr (oM rfl (oV (v_nilCheck rfl) (oV (v_fa rfl GChk.f0 fd103_0) ?_))))
    refine oV (v_fa rfl GTbd.f0 fd101_0) (oT (t_loadC (R := isv (a_c.tabled.t)) ty26 rfl .here (fun _ _ h => h) (oM rfl (cal_inv h fun y9 hy9 h => oT (t_call (order_Slots_w hy9) hT (.same rfl (.same rfl .nil)) .nil (fun R H' hR => ?_))))))
    obtain ⟨rfl, rfl⟩ := hR
    refine oV (v_ln (l := y9) rfl (fun _ _ h => h) sl36) (oA rfl (rnf (wsr (oT (t_alloc _ ze31 fun b10 => ?_)))))
    refine rnf (w_seq (wsr (oV (v_fi rfl Val.f5 fd46_5 rfl (z := a_v.more)) (oV (v_loadI ty44 rfl) ?_))))
    refine oV (v_ln (l := a_v.more) rfl (fun _ _ h => h) sl44) (oM rfl (rnf (w_block (w_lp (ι := Int × Int × Tag × GChk) (γ := Unit) (fun q11 g11 => [(8, isv (q11.1)), (54, isv (q11.2.1))]) (fun q11 g11 => [boxE b10 (q11.2.2.1 : Tag), boxE b_a_c (q11.2.2.2 : GChk)]) h () (mod_cons (j := 8) rfl (fun _ _ h => h) (mod_cons (j := 54) rfl (fun _ _ h => h) mod_nil)) (.cons .here (.cons .here .nil)) (fun L12 q11 g11 Q69 h hL12 eL12 rL12 => ?_)))))
    refine wsr (oV (v_lss rfl rfl) (rnf (w_seq (w_condM h rfl (fun _ h => ?_) (fun _ h => ?_)))))
    ·
     refine wkf (w_seq (w_J (ι := Int × Tag × GChk) (γ := Unit) (fun q41 g41 => [(8, isv (q41.1))]) (fun q41 g41 => [boxE b10 (q41.2.1 : Tag), boxE b_a_c (q41.2.2 : GChk)]) (.cons .here (.cons .here .nil)) h (fun q41 g41 h => ?_) (fun J42 h hJ42 => ?_)))
     ·
      refine w_region (ck_inv h fun q68 h => oV (v_add rfl rfl q68) (oM rfl (rl_nil ?_)))
      exact hL12 _ () h _ (join_imp 6 rfl rfl (mod_cons (j := 8) rfl (fun _ _ h => h) (mod_cons (j := 54) rfl (fun _ _ h => h) mod_nil)) (.cons .here (.cons .here .nil)))
     ·
      refine w_block (wsr (oM rfl (cal_inv h fun y43 hy43 h => oV (v_ix (l := a_v.more) rfl (fun _ _ h => h) rfl sl44 hy43) ?_)))
      refine oV (v_loadI ty112 rfl) (oT (t_alloc _ ze112 fun b44 => oA rfl (oT (t_storeC (y' := (y43 : Raw)) ty112 rfl rfl (fun _ _ h => h) .here rfl (rl_upd (upd_imm 11 .here rfl) ?_)))))
      refine rnf (w_seq (wsr (oV (v_fi rfl Val.f4 fd46_4 rfl (z := a_v.rule)) (oV (v_loadI ty3 rfl) ?_))))
      refine oV (v_eql rfl rfl) (rnf (w_condM h rfl (fun _ h => ?_) (fun _ h => ?_)))
      ·
       refine w_seq (wsr (oV (v_fi rfl Raw.f0 fd112_0 rfl (z := y43.n)) (oV (v_loadI ty3 rfl) (oM rfl ?_))))
       refine oV (v_lss rfl rfl) (oM rfl (rl_j (jb 70) je .nil h 4 rfl (fun q45 g45 h => ?_) (fun J46 h hJ46 => ?_)))
       ·
        refine oM rfl (rl_j (jb 76) je .nil h 5 rfl (fun q48 g48 h => ?_) (fun J49 h hJ49 => ?_))
        ·
         refine rnf (w_condM h rfl (fun _ h => ?_) (fun _ h => ?_))
         ·
          refine wsr (oA rfl (rnf (w_ret (ret_nxt ?_))))
          refine ret_nxt (ret_block (ret_nxt (rL12 _ (ret_block ?_))))
          refine ret_nxt (ret_post (.tmp rfl .nil) (.cons (.there .here) .nil) ?_)
          obtain rfl := Option.some.inj h
          exact ⟨rfl, rfl⟩
         ·
          refine wkf (wsr (oV (v_fi rfl Raw.f0 fd112_0 rfl (z := y43.n)) (oV (v_loadI ty3 rfl) (ck_inv h fun q52 h => ?_))))
          refine oV (v_add rfl rfl q52) (oA rfl (rnf (w_exit (exi_nxt ?_))))
          exact exi_block (hJ42 _ () h _ (join_imp 21 rfl rfl (mod_cons (j := 8) rfl (fun _ _ h => h) mod_nil) (.cons .here (.cons .here .nil))))
        ·
         refine rl_condM (j := 71) h rfl (fun g50 h => ?_) (fun g50 h => ?_)
         ·
          refine oP 71 rfl rfl g50 (oP 71 rfl rfl g50 (oP 71 rfl rfl g50 (oP 71 rfl rfl g50 (oV (v_pick_t rfl g50 rfl) ?_))))
          exact hJ49 _ () h _ (join_imp 5 rfl rfl (mod_cons (j := 76) rfl (fun _ _ h => h) mod_nil) (.cons .here (.cons .here .nil)))
         ·
          refine oK 71 rfl rfl rfl g50 (v_fi rfl Raw.f1 fd112_1 rfl (z := y43.b)) (oK 71 rfl rfl rfl g50 (v_loadI ty42 rfl) (cal_inv h fun y51 hy51 h => op_take rfl rfl (dj := 71) rfl g50 (t_call (value_open_w hy51) hT (.same rfl .nil) .nil (fun R H' hR => ?_))))
          obtain ⟨rfl, rfl⟩ := hR
          exact oK 71 rfl rfl rfl g50 (v_not rfl) (oV (v_pick_f rfl g50 rfl) (hJ49 _ () h _ (join_imp 5 rfl rfl (mod_cons (j := 76) rfl (fun _ _ h => h) mod_nil) (.cons .here (.cons .here .nil)))))
       ·
        refine rl_condM (j := 66) h rfl (fun g47 h => ?_) (fun g47 h => ?_)
        ·
         exact oP 66 rfl rfl g47 (oP 66 rfl rfl g47 (oP 66 rfl rfl g47 (oV (v_pick_t rfl g47 rfl) (hJ46 _ () h _ (join_imp 4 rfl rfl (mod_cons (j := 70) rfl (fun _ _ h => h) mod_nil) (.cons .here (.cons .here .nil)))))))
        ·
         exact oK 66 rfl rfl rfl g47 (v_fi rfl Raw.f0 fd112_0 rfl (z := y43.n)) (oK 66 rfl rfl rfl g47 (v_loadI ty3 rfl) (oK 66 rfl rfl rfl g47 (v_geq rfl rfl) (oV (v_pick_f rfl g47 rfl) (hJ46 _ () h _ (join_imp 4 rfl rfl (mod_cons (j := 70) rfl (fun _ _ h => h) mod_nil) (.cons .here (.cons .here .nil)))))))
      ·
       refine wkf (wsr (oM rfl (oM rfl (oV (v_fi rfl Raw.f1 fd112_1 rfl (z := y43.b)) ?_))))
       refine oV (v_loadI ty42 rfl) (cal_inv h fun y53 hy53 h => oT (t_call (value_checker_foreign_w hy53) hT (.same rfl (.same rfl (.same rfl .nil))) (.cons (.there .here) .nil) (fun R H' hR => ?_)))
       obtain ⟨rfl, rfl⟩ := hR
       refine oM rfl (oV (v_extract rfl rfl) (oV (v_extract rfl rfl) (oT (t_alloc _ ze31 fun b54 => oT (t_storeC (y' := (y53.1 : Tag)) ty31 rfl rfl (fun _ _ h => h) .here rfl ?_)))))
       refine rl_upd (upd_imm 12 .here rfl) (oA rfl (rnf (w_seq (wsr ?_))))
       refine oM rfl (oV (v_not rfl) (oM rfl (rl_j (jb 94) je .nil h 4 rfl (fun q55 g55 h => ?_) (fun J56 h hJ56 => ?_))))
       ·
        refine oM rfl (rl_j (jb 109) je .nil h 14 rfl (fun q58 g58 h => ?_) (fun J59 h hJ59 => ?_))
        ·
         refine rnf (w_condM h rfl (fun _ h => ?_) (fun _ h => ?_))
         ·
          refine wsr (oA rfl (rnf (w_ret (ret_nxt ?_))))
          refine ret_block (ret_nxt (rL12 _ (ret_block (ret_nxt ?_))))
          refine ret_post (.tmp rfl .nil) (.cons .here .nil) ?_
          obtain rfl := Option.some.inj h
          exact ⟨rfl, rfl⟩
         ·
          refine wkf (w_region (oV (v_loadI ty31 rfl) (oT (t_storeC (y' := (y53.1 : Tag)) ty31 rfl rfl (fun _ _ h => h) (.there .here) rfl (rl_nil ?_)))))
          exact fin_block (hJ42 _ () h _ (join_imp 27 rfl rfl (mod_cons (j := 8) rfl (fun _ _ h => h) mod_nil) (.cons .here (.cons .here .nil))))
        ·
         refine rl_condM (j := 95) h rfl (fun g60 h => ?_) (fun g60 h => ?_)
         ·
          refine oP 95 rfl rfl g60 (oP 95 rfl rfl g60 (oP 95 rfl rfl g60 (oP 95 rfl rfl g60 (op_passU rfl (dj := 99) rfl ?_))))
          refine op_passU rfl (dj := 99) rfl (oP 95 rfl rfl g60 (oP 95 rfl rfl g60 (op_passU rfl (dj := 103) rfl (op_passU rfl (dj := 103) rfl ?_))))
          exact op_passU rfl (dj := 103) rfl (op_passU rfl (dj := 103) rfl (oP 95 rfl rfl g60 (oV (v_pick_t rfl g60 rfl) (hJ59 _ () h _ (join_imp 14 rfl rfl (mod_cons (j := 109) rfl (fun _ _ h => h) mod_nil) (.cons .here (.cons .here .nil)))))))
         ·
          refine oK 95 rfl rfl rfl g60 (v_fi rfl GTyp.f0 fd87_0 rfl (z := y1.kind)) (oK 95 rfl rfl rfl g60 (v_loadI ty3 rfl) (oK 95 rfl rfl rfl g60 (v_eql rfl rfl) (oK 95 rfl rfl rfl g60 (v_move rfl) (rl_j (jb 102) je .nil h 3 rfl (fun q61 g61 h => ?_) (fun J62 h hJ62 => ?_)))))
          ·
           refine oK 95 rfl rfl rfl g60 (v_move rfl) (rl_j (jb 108) je .nil h 5 rfl (fun q64 g64 h => ?_) (fun J65 h hJ65 => ?_))
           ·
            exact oV (v_pick_f rfl g60 rfl) (hJ59 _ () h _ (join_imp 8 rfl rfl (mod_cons (j := 109) rfl (fun _ _ h => h) mod_nil) (.cons .here (.cons .here .nil))))
           ·
            refine rl_condM (j := 103) h rfl (fun g66 h => ?_) (fun g66 h => ?_)
            ·
             refine op_take rfl rfl (dj := 103) rfl g66 (t_loadC (R := isv (q11.2.2.1)) ty31 rfl (.there .here) (fun _ _ h => h) (oK 103 rfl rfl rfl g66 (v_loadI ty31 rfl) (cal_inv h fun y67 hy67 h => op_take rfl rfl (dj := 103) rfl g66 (t_call (tags_Less_w hy67) hT (.same rfl (.same rfl .nil)) .nil (fun R H' hR => ?_)))))
             obtain ⟨rfl, rfl⟩ := hR
             exact oK 103 rfl rfl rfl g66 (v_not rfl) (oK 95 rfl rfl rfl g60 (v_pick_t rfl g66 rfl) (hJ65 _ () h _ (join_imp 5 rfl rfl (mod_cons (j := 108) rfl (fun _ _ h => h) mod_nil) (.cons .here (.cons .here .nil)))))
            ·
             refine oP 103 rfl rfl g66 (oP 103 rfl rfl g66 (oP 103 rfl rfl g66 (oP 103 rfl rfl g66 (oK 95 rfl rfl rfl g60 (v_pick_f rfl g66 rfl) ?_))))
             exact hJ65 _ () h _ (join_imp 5 rfl rfl (mod_cons (j := 108) rfl (fun _ _ h => h) mod_nil) (.cons .here (.cons .here .nil)))
          ·
           refine rl_condM (j := 99) h rfl (fun g63 h => ?_) (fun g63 h => ?_)
           ·
            exact oK 99 rfl rfl rfl g63 (v_move rfl) (oK 99 rfl rfl rfl g63 (v_gtr rfl rfl) (oK 95 rfl rfl rfl g60 (v_pick_t rfl g63 rfl) (hJ62 _ () h _ (join_imp 3 rfl rfl (mod_cons (j := 102) rfl (fun _ _ h => h) mod_nil) (.cons .here (.cons .here .nil))))))
           ·
            exact oP 99 rfl rfl g63 (oP 99 rfl rfl g63 (oK 95 rfl rfl rfl g60 (v_pick_f rfl g63 rfl) (hJ62 _ () h _ (join_imp 3 rfl rfl (mod_cons (j := 102) rfl (fun _ _ h => h) mod_nil) (.cons .here (.cons .here .nil))))))
       ·
        refine rl_condM (j := 90) h rfl (fun g57 h => ?_) (fun g57 h => ?_)
        ·
         exact oP 90 rfl rfl g57 (oP 90 rfl rfl g57 (oP 90 rfl rfl g57 (oV (v_pick_t rfl g57 rfl) (hJ56 _ () h _ (join_imp 4 rfl rfl (mod_cons (j := 94) rfl (fun _ _ h => h) mod_nil) (.cons .here (.cons .here .nil)))))))
        ·
         exact oK 90 rfl rfl rfl g57 (v_fi rfl Raw.f0 fd112_0 rfl (z := y43.n)) (oK 90 rfl rfl rfl g57 (v_loadI ty3 rfl) (oK 90 rfl rfl rfl g57 (v_neq rfl rfl) (oV (v_pick_f rfl g57 rfl) (hJ56 _ () h _ (join_imp 4 rfl rfl (mod_cons (j := 94) rfl (fun _ _ h => h) mod_nil) (.cons .here (.cons .here .nil)))))))
    ·
     refine w_exit (exi_nxt (eL12 _ _ (exi_block (fin_nxt ?_))))
     refine wsr (oA rfl (rnf (w_ret (ret_post (.tmp rfl .nil) (.cons (.there .here) .nil) ?_))))
     obtain rfl := Option.some.inj h
     exact ⟨rfl, rfl⟩
  ·
   refine rl_condM (j := 33) h rfl (fun g5 h => ?_) (fun g5 h => ?_)
   ·
    refine oP 33 rfl rfl g5 (oP 33 rfl rfl g5 (oP 33 rfl rfl g5 (oP 33 rfl rfl g5 (op_passU rfl (dj := 37) rfl ?_))))
    exact op_passU rfl (dj := 37) rfl (op_passU rfl (dj := 37) rfl (oP 33 rfl rfl g5 (oV (v_pick_t rfl g5 rfl) (hJ4 _ () h _ (join_imp 9 rfl rfl (mod_cons (j := 42) rfl (fun _ _ h => h) mod_nil) (.cons .here .nil))))))
   ·
    refine oK 33 rfl rfl rfl g5 (v_fi rfl Val.f4 fd46_4 rfl (z := a_v.rule)) (oK 33 rfl rfl rfl g5 (v_loadI ty3 rfl) (oK 33 rfl rfl rfl g5 (v_neq rfl rfl) (oK 33 rfl rfl rfl g5 (v_move rfl) (rl_j (jb 41) je .nil h 4 rfl (fun q6 g6 h => ?_) (fun J7 h hJ7 => ?_)))))
    ·
     exact oV (v_pick_f rfl g5 rfl) (hJ4 _ () h _ (join_imp 6 rfl rfl (mod_cons (j := 42) rfl (fun _ _ h => h) mod_nil) (.cons .here .nil)))
    ·
     refine rl_condM (j := 37) h rfl (fun g8 h => ?_) (fun g8 h => ?_)
     ·
      exact oK 37 rfl rfl rfl g8 (v_fi rfl Val.f4 fd46_4 rfl (z := a_v.rule)) (oK 37 rfl rfl rfl g8 (v_loadI ty3 rfl) (oK 37 rfl rfl rfl g8 (v_neq rfl rfl) (oK 33 rfl rfl rfl g5 (v_pick_t rfl g8 rfl) (hJ7 _ () h _ (join_imp 4 rfl rfl (mod_cons (j := 41) rfl (fun _ _ h => h) mod_nil) (.cons .here .nil))))))
     ·
      exact oP 37 rfl rfl g8 (oP 37 rfl rfl g8 (oP 37 rfl rfl g8 (oK 33 rfl rfl rfl g5 (v_pick_f rfl g8 rfl) (hJ7 _ () h _ (join_imp 4 rfl rfl (mod_cons (j := 41) rfl (fun _ _ h => h) mod_nil) (.cons .here .nil))))))


theorem value_Absent_w : ∀ {a_v : Val} {r : Bool}, value_Absent a_v = some r → Ctr Tryz.prog 126 [isv (a_v)] [] (fun R H => R = oneOf [isv (r)] ∧ H = []) := by
 intro a_v r h
 unfold value_Absent at h
 refine spec_intro Tryz.func126 rfl (by decide +kernel) (by rfl) fun w0 S0 hT => ?_
 refine wsr (oT (t_boxIC (y := a_v) rfl (fun _ _ h => h) (oA rfl (rnf (wsr ?_)))))
 refine oV (v_fi rfl Val.f0 fd46_0 rfl (z := a_v.kind)) (oV (v_loadI ty3 rfl) (oV (v_eql rfl rfl) (oM rfl (rl_j (jb 9) je .nil h 3 rfl (fun q1 g1 h => ?_) (fun J2 h hJ2 => ?_)))))
 ·
  refine oA rfl (rnf (w_ret (ret_post (.tmp rfl .nil) .nil ?_)))
  obtain rfl := Option.some.inj h
  exact ⟨rfl, rfl⟩
 ·
  refine rl_condM (j := 6) h rfl (fun g3 h => ?_) (fun g3 h => ?_)
  ·
   refine oK 6 rfl rfl rfl g3 (v_loadI ty46 rfl) (cal_inv h fun y4 hy4 h => op_take rfl rfl (dj := 6) rfl g3 (t_call (value_plain_w hy4) hT (.same rfl (.same rfl .nil)) .nil (fun R H' hR => ?_)))
   obtain ⟨rfl, rfl⟩ := hR
   exact oV (v_pick_t rfl g3 rfl) (hJ2 _ () h _ (ji 3 9 rfl rfl rfl))
  ·
   exact oP 6 rfl rfl g3 (oP 6 rfl rfl g3 (oV (v_pick_f rfl g3 rfl) (hJ2 _ () h _ (ji 3 9 rfl rfl rfl))))


theorem bytes_Equal_w : ∀ {a_a : (List UInt8)} {a_b : (List UInt8)} {r : Bool}, bytes_Equal a_a a_b = some r → Ctr Tryz.prog 96 [isv (a_a), isv (a_b)] [] (fun R H => R = oneOf [isv (r)] ∧ H = []) := by
 intro a_a a_b r h
 unfold bytes_Equal at h
 refine spec_intro Tryz.func96 rfl (by decide +kernel) (by rfl) fun w0 S0 hT => ?_
 refine wsr (oA rfl (rnf (wsr (oM rfl ?_))))
 refine oV (v_bs (l := a_a) Tryz.underlying42 Tryz.underlying5 Tryz.underlying9 rfl (fun _ _ h => h)) (oM rfl (oV (v_bs (l := a_b) Tryz.underlying42 Tryz.underlying5 Tryz.underlying9 rfl (fun _ _ h => h)) (oV (v_eqA eq9 rfl rfl) (oA rfl ?_))))
 refine rnf (w_ret (ret_post (.tmp rfl .nil) .nil ?_))
 obtain rfl := Option.some.inj h
 exact ⟨rfl, rfl⟩


theorem value_sameRaw_w : ∀ {a_a : Raw} {a_b : Raw} {r : Bool}, value_sameRaw a_a a_b = some r → Ctr Tryz.prog 99 [isv (a_a), isv (a_b)] [] (fun R H => R = oneOf [isv (r)] ∧ H = []) := by
 intro a_a a_b r h
 unfold value_sameRaw at h
 refine spec_intro Tryz.func99 rfl (by decide +kernel) (by rfl) fun w0 S0 hT => ?_
 refine wsr (oT (t_boxIC (y := a_a) rfl (fun _ _ h => h) (oT (t_boxIC (y := a_b) rfl (fun _ _ h => h) (oA rfl (rnf ?_))))))
 refine wsr (oV (v_fi rfl Raw.f0 fd112_0 rfl (z := a_a.n)) (oV (v_loadI ty3 rfl) (oV (v_fi rfl Raw.f0 fd112_0 rfl (z := a_b.n)) (oV (v_loadI ty3 rfl) ?_))))
 refine oV (v_eql rfl rfl) (oM rfl (rl_j (jb 16) je .nil h 6 rfl (fun q1 g1 h => ?_) (fun J2 h hJ2 => ?_)))
 ·
  refine oA rfl (rnf (w_ret (ret_post (.tmp rfl .nil) .nil ?_)))
  obtain rfl := Option.some.inj h
  exact ⟨rfl, rfl⟩
 ·
  refine rl_condM (j := 10) h rfl (fun g3 h => ?_) (fun g3 h => ?_)
  ·
   refine oK 10 rfl rfl rfl g3 (v_fi rfl Raw.f1 fd112_1 rfl (z := a_a.b)) (oK 10 rfl rfl rfl g3 (v_loadI ty42 rfl) (oK 10 rfl rfl rfl g3 (v_fi rfl Raw.f1 fd112_1 rfl (z := a_b.b)) (oK 10 rfl rfl rfl g3 (v_loadI ty42 rfl) (cal_inv h fun y4 hy4 h => ?_))))
   refine op_take rfl rfl (dj := 10) rfl g3 (t_call (bytes_Equal_w hy4) hT (.same rfl (.same rfl .nil)) .nil (fun R H' hR => ?_))
   obtain ⟨rfl, rfl⟩ := hR
   exact oV (v_pick_t rfl g3 rfl) (hJ2 _ () h _ (ji 6 16 rfl rfl rfl))
  ·
   refine oP 10 rfl rfl g3 (oP 10 rfl rfl g3 (oP 10 rfl rfl g3 (oP 10 rfl rfl g3 (oP 10 rfl rfl g3 ?_))))
   exact oV (v_pick_f rfl g3 rfl) (hJ2 _ () h _ (ji 6 16 rfl rfl rfl))


theorem slices_EqualFunc_Lapi_Raw_Lapi_Raw_api_Raw_api_Raw_w : ∀ {a_s1 : (List Raw)} {a_s2 : (List Raw)} {r : Bool}, slices_EqualFunc_Lapi_Raw_Lapi_Raw_api_Raw_api_Raw a_s1 a_s2 = some r → Ctr Tryz.prog 98 [isv (a_s1), isv (a_s2), clov 99 []] [] (fun R H => R = oneOf [isv (r)] ∧ H = []) := by
 intro a_s1 a_s2 r h
 unfold slices_EqualFunc_Lapi_Raw_Lapi_Raw_api_Raw_api_Raw at h
 refine spec_intro Tryz.func98 rfl (by decide +kernel) (by rfl) fun w0 S0 hT => ?_
 refine wsr (oA rfl (rnf (w_seq (wsr ?_))))
 refine oM rfl (oV (v_ln (l := a_s1) rfl (fun _ _ h => h) sl44) (oM rfl (oV (v_ln (l := a_s2) rfl (fun _ _ h => h) sl44) (oV (v_neq rfl rfl) ?_))))
 refine rnf (w_condM h rfl (fun _ h => ?_) (fun _ h => ?_))
 ·
  refine wsr (oA rfl (rnf (w_ret (ret_nxt ?_))))
  refine ret_post (.tmp rfl .nil) .nil ?_
  obtain rfl := Option.some.inj h
  exact ⟨rfl, rfl⟩
 ·
  refine wkf (w_seq (wsr (oM rfl (oV (v_ln (l := a_s1) rfl (fun _ _ h => h) sl44) ?_))))
  refine oM rfl (rnf (w_block (w_lp (ι := Int) (γ := Unit) (fun q1 g1 => [(17, isv (q1))]) (fun q1 g1 => []) h () (mod_cons (j := 17) rfl (fun _ _ h => h) mod_nil) .nil (fun L2 q1 g1 Q15 h hL2 eL2 rL2 => wsr ?_))))
  refine oV (v_lss rfl rfl) (rnf (w_seq (w_condM h rfl (fun _ h => ?_) (fun _ h => ?_))))
  ·
   refine wkf (w_seq (w_block (wsr (oM rfl ?_))))
   refine cal_inv h fun y9 hy9 h => oV (v_ix (l := a_s1) rfl (fun _ _ h => h) rfl sl44 hy9) (oV (v_loadI ty112 rfl) (oT (t_alloc _ ze112 fun b10 => oA rfl ?_)))
   refine oT (t_storeC (y' := (y9 : Raw)) ty112 rfl rfl (fun _ _ h => h) .here rfl (rl_upd (upd_imm 8 .here rfl) (rnf (wsr (oM rfl ?_)))))
   refine oM rfl (cal_inv h fun y11 hy11 h => oV (v_ix (l := a_s2) rfl (fun _ _ h => h) rfl sl44 hy11) (oV (v_loadI ty112 rfl) (oT (t_alloc _ ze112 fun b12 => ?_))))
   refine oT (t_storeC (y' := (y11 : Raw)) ty112 rfl rfl (fun _ _ h => h) .here rfl (rl_upd (upd_imm 9 .here rfl) (rnf (wsr (oM rfl ?_)))))
   refine oV (v_loadI ty112 rfl) (oV (v_loadI ty112 rfl) (cal_inv h fun y13 hy13 h => oT (t_callC rfl (.same rfl (.same rfl .nil)) (value_sameRaw_w hy13) hT .nil (fun R H' hR => ?_))))
   obtain ⟨rfl, rfl⟩ := hR
   refine oV (v_not rfl) (rnf (w_condM h rfl (fun _ h => ?_) (fun _ h => ?_)))
   ·
    refine wsr (oA rfl (rnf (w_ret (ret_block ?_))))
    refine ret_nxt (rL2 _ (ret_block (ret_nxt (ret_post (.tmp rfl .nil) .nil ?_))))
    obtain rfl := Option.some.inj h
    exact ⟨rfl, rfl⟩
   ·
    refine w_skip (fin_block (fin_nxt (w_region (ck_inv h fun q14 h => ?_))))
    exact oV (v_add rfl rfl q14) (oM rfl (rl_nil (hL2 _ () h _ (ji 21 17 rfl rfl rfl))))
  ·
   refine w_exit (exi_nxt (eL2 _ _ (exi_block (fin_nxt ?_))))
   refine wsr (oA rfl (rnf (w_ret (ret_post (.tmp rfl .nil) .nil ?_))))
   obtain rfl := Option.some.inj h
   exact ⟨rfl, rfl⟩


def value_Same_C (f' : Val → Val → Option (Bool)) : Prop :=
 ∀ {a_a : Val} {a_b : Val} {r : Bool}, f' a_a a_b = some r → Ctr Tryz.prog 67 [isv (a_a), isv (a_b)] [] (fun R H => R = oneOf [isv (r)] ∧ H = [])
def slices_EqualFunc_Lapi_Value_Lapi_Value_api_Value_api_Value_C (f' : (List Val) → (List Val) → Option (Bool)) : Prop :=
 ∀ {a_s1 : (List Val)} {a_s2 : (List Val)} {r : Bool}, f' a_s1 a_s2 = some r → Ctr Tryz.prog 97 [isv (a_s1), isv (a_s2), clov 67 []] [] (fun R H => R = oneOf [isv (r)] ∧ H = [])
theorem value_Same_w0 {value_Same' : Val → Val → Option (Bool)} {slices_EqualFunc_Lapi_Value_Lapi_Value_api_Value_api_Value' : (List Val) → (List Val) → Option (Bool)} (h_value_Same : value_Same_C value_Same') (h_slices_EqualFunc_Lapi_Value_Lapi_Value_api_Value_api_Value : slices_EqualFunc_Lapi_Value_Lapi_Value_api_Value_api_Value_C slices_EqualFunc_Lapi_Value_Lapi_Value_api_Value_api_Value') : ∀ {a_a : Val} {a_b : Val} {r : Bool}, value_Same_F value_Same' slices_EqualFunc_Lapi_Value_Lapi_Value_api_Value_api_Value' a_a a_b = some r → Ctr Tryz.prog 67 [isv (a_a), isv (a_b)] [] (fun R H => R = oneOf [isv (r)] ∧ H = []) := by
 intro a_a a_b r h
 unfold value_Same_F at h
 refine spec_intro Tryz.func67 rfl (by decide +kernel) (by rfl) fun w0 S0 hT => ?_
 refine wsr (oT (t_boxIC (y := a_a) rfl (fun _ _ h => h) (oT (t_boxIC (y := a_b) rfl (fun _ _ h => h) (oA rfl (rnf ?_))))))
 refine wsr (oV (v_fi rfl Val.f0 fd46_0 rfl (z := a_a.kind)) (oV (v_loadI ty3 rfl) (oV (v_fi rfl Val.f0 fd46_0 rfl (z := a_b.kind)) (oV (v_loadI ty3 rfl) ?_))))
 refine oV (v_eql rfl rfl) (oM rfl (rl_j (jb 16) je .nil h 6 rfl (fun q1 g1 h => ?_) (fun J2 h hJ2 => ?_)))
 ·
  refine oM rfl (rl_j (jb 23) je .nil h 6 rfl (fun q4 g4 h => ?_) (fun J5 h hJ5 => ?_))
  ·
   refine oM rfl (rl_j (jb 30) je .nil h 6 rfl (fun q8 g8 h => ?_) (fun J9 h hJ9 => ?_))
   ·
    refine oM rfl (rl_j (jb 37) je .nil h 6 rfl (fun q12 g12 h => ?_) (fun J13 h hJ13 => ?_))
    ·
     refine oM rfl (rl_j (jb 44) je .nil h 6 rfl (fun q15 g15 h => ?_) (fun J16 h hJ16 => ?_))
     ·
      refine oA rfl (rnf (w_ret (ret_post (.tmp rfl .nil) .nil ?_)))
      obtain rfl := Option.some.inj h
      exact ⟨rfl, rfl⟩
     ·
      refine rl_condM (j := 38) h rfl (fun g17 h => ?_) (fun g17 h => ?_)
      ·
       refine oK 38 rfl rfl rfl g17 (v_fi rfl Val.f5 fd46_5 rfl (z := a_a.more)) (oK 38 rfl rfl rfl g17 (v_loadI ty44 rfl) (oK 38 rfl rfl rfl g17 (v_fi rfl Val.f5 fd46_5 rfl (z := a_b.more)) (oK 38 rfl rfl rfl g17 (v_loadI ty44 rfl) (cal_inv h fun y18 hy18 h => ?_))))
       refine op_take rfl rfl (dj := 38) rfl g17 (t_call (slices_EqualFunc_Lapi_Raw_Lapi_Raw_api_Raw_api_Raw_w hy18) hT (.same rfl (.same rfl (.same rfl .nil))) .nil (fun R H' hR => ?_))
       obtain ⟨rfl, rfl⟩ := hR
       exact oV (v_pick_t rfl g17 rfl) (hJ16 _ () h _ (ji 6 44 rfl rfl rfl))
      ·
       refine oP 38 rfl rfl g17 (oP 38 rfl rfl g17 (oP 38 rfl rfl g17 (oP 38 rfl rfl g17 (oP 38 rfl rfl g17 ?_))))
       exact oV (v_pick_f rfl g17 rfl) (hJ16 _ () h _ (ji 6 44 rfl rfl rfl))
    ·
     refine rl_condM (j := 31) h rfl (fun g14 h => ?_) (fun g14 h => ?_)
     ·
      refine oK 31 rfl rfl rfl g14 (v_fi rfl Val.f4 fd46_4 rfl (z := a_a.rule)) (oK 31 rfl rfl rfl g14 (v_loadI ty3 rfl) (oK 31 rfl rfl rfl g14 (v_fi rfl Val.f4 fd46_4 rfl (z := a_b.rule)) (oK 31 rfl rfl rfl g14 (v_loadI ty3 rfl) (oK 31 rfl rfl rfl g14 (v_eql rfl rfl) ?_))))
      exact oV (v_pick_t rfl g14 rfl) (hJ13 _ () h _ (ji 6 37 rfl rfl rfl))
     ·
      refine oP 31 rfl rfl g14 (oP 31 rfl rfl g14 (oP 31 rfl rfl g14 (oP 31 rfl rfl g14 (oP 31 rfl rfl g14 ?_))))
      exact oV (v_pick_f rfl g14 rfl) (hJ13 _ () h _ (ji 6 37 rfl rfl rfl))
   ·
    refine rl_condM (j := 24) h rfl (fun g10 h => ?_) (fun g10 h => ?_)
    ·
     refine oK 24 rfl rfl rfl g10 (v_fi rfl Val.f3 fd46_3 rfl (z := a_a.l)) (oK 24 rfl rfl rfl g10 (v_loadI ty43 rfl) (oK 24 rfl rfl rfl g10 (v_fi rfl Val.f3 fd46_3 rfl (z := a_b.l)) (oK 24 rfl rfl rfl g10 (v_loadI ty43 rfl) (cal_inv h fun y11 hy11 h => ?_))))
     refine op_take rfl rfl (dj := 24) rfl g10 (t_call (h_slices_EqualFunc_Lapi_Value_Lapi_Value_api_Value_api_Value hy11) hT (.same rfl (.same rfl (.same rfl .nil))) .nil (fun R H' hR => ?_))
     obtain ⟨rfl, rfl⟩ := hR
     exact oV (v_pick_t rfl g10 rfl) (hJ9 _ () h _ (ji 6 30 rfl rfl rfl))
    ·
     refine oP 24 rfl rfl g10 (oP 24 rfl rfl g10 (oP 24 rfl rfl g10 (oP 24 rfl rfl g10 (oP 24 rfl rfl g10 ?_))))
     exact oV (v_pick_f rfl g10 rfl) (hJ9 _ () h _ (ji 6 30 rfl rfl rfl))
  ·
   refine rl_condM (j := 17) h rfl (fun g6 h => ?_) (fun g6 h => ?_)
   ·
    refine oK 17 rfl rfl rfl g6 (v_fi rfl Val.f2 fd46_2 rfl (z := a_a.b)) (oK 17 rfl rfl rfl g6 (v_loadI ty42 rfl) (oK 17 rfl rfl rfl g6 (v_fi rfl Val.f2 fd46_2 rfl (z := a_b.b)) (oK 17 rfl rfl rfl g6 (v_loadI ty42 rfl) (cal_inv h fun y7 hy7 h => ?_))))
    refine op_take rfl rfl (dj := 17) rfl g6 (t_call (bytes_Equal_w hy7) hT (.same rfl (.same rfl .nil)) .nil (fun R H' hR => ?_))
    obtain ⟨rfl, rfl⟩ := hR
    exact oV (v_pick_t rfl g6 rfl) (hJ5 _ () h _ (ji 6 23 rfl rfl rfl))
   ·
    refine oP 17 rfl rfl g6 (oP 17 rfl rfl g6 (oP 17 rfl rfl g6 (oP 17 rfl rfl g6 (oP 17 rfl rfl g6 ?_))))
    exact oV (v_pick_f rfl g6 rfl) (hJ5 _ () h _ (ji 6 23 rfl rfl rfl))
 ·
  refine rl_condM (j := 10) h rfl (fun g3 h => ?_) (fun g3 h => ?_)
  ·
   refine oK 10 rfl rfl rfl g3 (v_fi rfl Val.f1 fd46_1 rfl (z := a_a.n)) (oK 10 rfl rfl rfl g3 (v_loadI ty2 rfl) (oK 10 rfl rfl rfl g3 (v_fi rfl Val.f1 fd46_1 rfl (z := a_b.n)) (oK 10 rfl rfl rfl g3 (v_loadI ty2 rfl) (oK 10 rfl rfl rfl g3 (v_eql rfl rfl) ?_))))
   exact oV (v_pick_t rfl g3 rfl) (hJ2 _ () h _ (ji 6 16 rfl rfl rfl))
  ·
   refine oP 10 rfl rfl g3 (oP 10 rfl rfl g3 (oP 10 rfl rfl g3 (oP 10 rfl rfl g3 (oP 10 rfl rfl g3 ?_))))
   exact oV (v_pick_f rfl g3 rfl) (hJ2 _ () h _ (ji 6 16 rfl rfl rfl))

theorem slices_EqualFunc_Lapi_Value_Lapi_Value_api_Value_api_Value_w0 {value_Same' : Val → Val → Option (Bool)} {slices_EqualFunc_Lapi_Value_Lapi_Value_api_Value_api_Value' : (List Val) → (List Val) → Option (Bool)} (h_value_Same : value_Same_C value_Same') (h_slices_EqualFunc_Lapi_Value_Lapi_Value_api_Value_api_Value : slices_EqualFunc_Lapi_Value_Lapi_Value_api_Value_api_Value_C slices_EqualFunc_Lapi_Value_Lapi_Value_api_Value_api_Value') : ∀ {a_s1 : (List Val)} {a_s2 : (List Val)} {r : Bool}, slices_EqualFunc_Lapi_Value_Lapi_Value_api_Value_api_Value_F value_Same' slices_EqualFunc_Lapi_Value_Lapi_Value_api_Value_api_Value' a_s1 a_s2 = some r → Ctr Tryz.prog 97 [isv (a_s1), isv (a_s2), clov 67 []] [] (fun R H => R = oneOf [isv (r)] ∧ H = []) := by
 intro a_s1 a_s2 r h
 unfold slices_EqualFunc_Lapi_Value_Lapi_Value_api_Value_api_Value_F at h
 refine spec_intro Tryz.func97 rfl (by decide +kernel) (by rfl) fun w0 S0 hT => ?_
 refine wsr (oA rfl (rnf (w_seq (wsr ?_))))
 refine oM rfl (oV (v_ln (l := a_s1) rfl (fun _ _ h => h) sl43) (oM rfl (oV (v_ln (l := a_s2) rfl (fun _ _ h => h) sl43) (oV (v_neq rfl rfl) ?_))))
 refine rnf (w_condM h rfl (fun _ h => ?_) (fun _ h => ?_))
 ·
  refine wsr (oA rfl (rnf (w_ret (ret_nxt ?_))))
  refine ret_post (.tmp rfl .nil) .nil ?_
  obtain rfl := Option.some.inj h
  exact ⟨rfl, rfl⟩
 ·
  refine wkf (w_seq (wsr (oM rfl (oV (v_ln (l := a_s1) rfl (fun _ _ h => h) sl43) ?_))))
  refine oM rfl (rnf (w_block (w_lp (ι := Int) (γ := Unit) (fun q1 g1 => [(17, isv (q1))]) (fun q1 g1 => []) h () (mod_cons (j := 17) rfl (fun _ _ h => h) mod_nil) .nil (fun L2 q1 g1 Q15 h hL2 eL2 rL2 => wsr ?_))))
  refine oV (v_lss rfl rfl) (rnf (w_seq (w_condM h rfl (fun _ h => ?_) (fun _ h => ?_))))
  ·
   refine wkf (w_seq (w_block (wsr (oM rfl ?_))))
   refine cal_inv h fun y9 hy9 h => oV (v_ix (l := a_s1) rfl (fun _ _ h => h) rfl sl43 hy9) (oV (v_loadI ty46 rfl) (oT (t_alloc _ ze46 fun b10 => oA rfl ?_)))
   refine oT (t_storeC (y' := (y9 : Val)) ty46 rfl rfl (fun _ _ h => h) .here rfl (rl_upd (upd_imm 8 .here rfl) (rnf (wsr (oM rfl ?_)))))
   refine oM rfl (cal_inv h fun y11 hy11 h => oV (v_ix (l := a_s2) rfl (fun _ _ h => h) rfl sl43 hy11) (oV (v_loadI ty46 rfl) (oT (t_alloc _ ze46 fun b12 => ?_))))
   refine oT (t_storeC (y' := (y11 : Val)) ty46 rfl rfl (fun _ _ h => h) .here rfl (rl_upd (upd_imm 9 .here rfl) (rnf (wsr (oM rfl ?_)))))
   refine oV (v_loadI ty46 rfl) (oV (v_loadI ty46 rfl) (cal_inv h fun y13 hy13 h => oT (t_callC rfl (.same rfl (.same rfl .nil)) (h_value_Same hy13) hT .nil (fun R H' hR => ?_))))
   obtain ⟨rfl, rfl⟩ := hR
   refine oV (v_not rfl) (rnf (w_condM h rfl (fun _ h => ?_) (fun _ h => ?_)))
   ·
    refine wsr (oA rfl (rnf (w_ret (ret_block ?_))))
    refine ret_nxt (rL2 _ (ret_block (ret_nxt (ret_post (.tmp rfl .nil) .nil ?_))))
    obtain rfl := Option.some.inj h
    exact ⟨rfl, rfl⟩
   ·
    refine w_skip (fin_block (fin_nxt (w_region (ck_inv h fun q14 h => ?_))))
    exact oV (v_add rfl rfl q14) (oM rfl (rl_nil (hL2 _ () h _ (ji 21 17 rfl rfl rfl))))
  ·
   refine w_exit (exi_nxt (eL2 _ _ (exi_block (fin_nxt ?_))))
   refine wsr (oA rfl (rnf (w_ret (ret_post (.tmp rfl .nil) .nil ?_))))
   obtain rfl := Option.some.inj h
   exact ⟨rfl, rfl⟩

theorem value_Same_grp_w : ∀ n, value_Same_C (value_Same n) ∧ slices_EqualFunc_Lapi_Value_Lapi_Value_api_Value_api_Value_C (slices_EqualFunc_Lapi_Value_Lapi_Value_api_Value_api_Value n)
 | 0 => ⟨fun h => (by cases h), fun h => (by cases h)⟩
 | n + 1 => by
  obtain ⟨h0, h1⟩ := value_Same_grp_w n
  exact ⟨value_Same_w0 h0 h1, slices_EqualFunc_Lapi_Value_Lapi_Value_api_Value_api_Value_w0 h0 h1⟩
theorem value_Same_w (n : Nat) : value_Same_C (value_Same n) := (value_Same_grp_w n).1
theorem value_checker_groups_w : ∀ {a_c : GChk} {a_i : Int} {a_v : Val} {b_a_c : Nat} {r : Bool × GChk}, value_checker_groups a_c a_i a_v = some r → Ctr Tryz.prog 128 [ptrv b_a_c (Fld.id GChk), isv (a_i), isv (a_v)] [boxE b_a_c (a_c : GChk)] (fun R H => R = oneOf [isv (r.1)] ∧ H = [boxE b_a_c (r.2)]) := by
 intro a_c a_i a_v b_a_c r h
 unfold value_checker_groups at h
 refine spec_intro Tryz.func128 rfl (by decide +kernel) (by rfl) fun w0 S0 hT => ?_
 refine wsr (oT (t_boxIC (y := a_v) rfl (fun _ _ h => h) (oA rfl (rnf (wsr ?_)))))
 refine oM rfl (oV (v_nilCheck rfl) (oV (v_fa rfl GChk.f0 fd103_0) (oV (v_fa rfl GTbd.f0 fd101_0) (oV (v_fa rfl GTab.f3 fd26_3) ?_))))
 refine oT (t_loadC (R := isv (a_c.tabled.t.types)) ty24 rfl .here (fun _ _ h => h) (oM rfl (cal_inv h fun y1 hy1 h => oV (v_ix (l := a_c.tabled.t.types) rfl (fun _ _ h => h) rfl sl24 hy1) (oV (v_loadI ty87 rfl) ?_))))
 refine oT (t_alloc _ ze87 fun b2 => oT (t_storeC (y' := (y1 : GTyp)) ty87 rfl rfl (fun _ _ h => h) .here rfl (rl_upd (upd_imm 7 .here rfl) (rnf (w_seq ?_)))))
 refine wsr (oM rfl (oV (v_nilCheck rfl) (oV (v_fa rfl GChk.f0 fd103_0) (oV (v_fa rfl GTbd.f0 fd101_0) ?_))))
 refine oT (t_loadC (R := isv (a_c.tabled.t)) ty26 rfl .here (fun _ _ h => h) (oM rfl (cal_inv h fun y3 hy3 h => oT (t_call (order_Slots_w hy3) hT (.same rfl (.same rfl .nil)) .nil (fun R H' hR => ?_)))))
 obtain ⟨rfl, rfl⟩ := hR
 refine oV (v_ln (l := y3) rfl (fun _ _ h => h) sl36) (oM rfl (rnf (w_block (w_lp (ι := Int) (γ := Unit) (fun q4 g4 => [(32, isv (q4))]) (fun q4 g4 => []) h () (mod_cons (j := 32) rfl (fun _ _ h => h) mod_nil) .nil (fun L5 q4 g4 Q90 h hL5 eL5 rL5 => ?_)))))
 refine wsr (oV (v_lss rfl rfl) (rnf (w_seq (w_condM h rfl (fun _ h => ?_) (fun _ h => ?_)))))
 ·
  refine wkf (w_seq (w_J (ι := Unit) (γ := Unit) (fun q48 g48 => []) (fun q48 g48 => []) .nil h (fun q48 g48 h => ?_) (fun J49 h hJ49 => ?_)))
  ·
   refine w_region (ck_inv h fun q89 h => oV (v_add rfl rfl q89) (oM rfl (rl_nil ?_)))
   exact hL5 _ () h _ (join_imp 4 rfl rfl (mod_cons (j := 32) rfl (fun _ _ h => h) mod_nil) (.cons .here .nil))
  ·
   refine w_block (wsr (cal_inv h fun y50 hy50 h => oV (v_ix (l := y3) rfl (fun _ _ h => h) rfl sl36 hy50) (oV (v_loadI ty23 rfl) ?_)))
   refine oA rfl (rnf (w_seq (w_seq (w_regionD (.v 0 (.v 1 (.v 2 (.v 3 (.v 4 (.v 5 (.v 6 (.v 7 (.v 8 .nil))))))))) moOrd (by kernel_rfl) ?_))))
   refine rd_v rfl (v_fi rfl GTyp.f4 fd87_4 rfl (z := y1.fields)) (rd_v rfl (v_loadI ty85 rfl) (rvm rfl rfl (cal_inv h fun y51 hy51 h => rd_v rfl (v_ix (l := y50) rfl (fun _ _ h => h) rfl sl23 hy51) ?_)))
   refine rd_v rfl (v_loadI ty3 rfl) (cal_inv h fun y52 hy52 h => rd_v rfl (v_ix (l := y1.fields) rfl (fun _ _ h => h) rfl sl85 hy52) (rd_v rfl (v_fi rfl GFld.f5 fd92_5 rfl (z := y52.group)) (rd_v rfl (v_loadI ty3 rfl) ?_)))
   refine rd_v rfl (v_eql rfl rfl) (rd_nil (fin_nxt (w_condM h rfl (fun _ h => ?_) (fun _ h => ?_))))
   ·
    exact w_exit (exi_nxt (exi_block (hJ49 _ () h _ (join_imp 12 rfl rfl mod_nil (.cons .here .nil)))))
   ·
    refine wkf (wsr (oA rfl (oA rfl (rnf ?_))))
    refine w_seq (wsr (oM rfl (oV (v_ln (l := y50) rfl (fun _ _ h => h) sl23) (oM rfl ?_))))
    refine rnf (w_block (w_lp (ι := Bool × Bool × Int) (γ := Unit) (fun q53 g53 => [(10, isv (q53.1)), (11, isv (q53.2.1)), (47, isv (q53.2.2))]) (fun q53 g53 => []) h () (mod_cons (j := 10) rfl (fun _ _ h => h) (mod_cons (j := 11) rfl (fun _ _ h => h) (mod_cons (j := 47) rfl (fun _ _ h => h) mod_nil))) .nil (fun L54 q53 g53 Q88 h hL54 eL54 rL54 => wsr (oV (v_lss rfl rfl) ?_))))
    refine rnf (w_seq (w_condM h rfl (fun _ h => ?_) (fun _ h => ?_)))
    ·
     refine wkf (w_seq (w_block (wsr (cal_inv h fun y67 hy67 h => ?_))))
     refine oV (v_ix (l := y50) rfl (fun _ _ h => h) rfl sl23 hy67) (oV (v_loadI ty3 rfl) (oA rfl (rnf (wsr ?_))))
     refine oV (v_fi rfl Val.f3 fd46_3 rfl (z := a_v.l)) (oV (v_loadI ty43 rfl) (oM rfl (cal_inv h fun y68 hy68 h => oV (v_ix (l := a_v.l) rfl (fun _ _ h => h) rfl sl43 hy68) ?_)))
     refine oV (v_loadI ty46 rfl) (cal_inv h fun y69 hy69 h => oT (t_call (value_Absent_w hy69) hT (.same rfl .nil) .nil (fun R H' hR => ?_)))
     obtain ⟨rfl, rfl⟩ := hR
     refine oV (v_not rfl) (oA rfl (rnf (wsr (oM rfl ?_))))
     refine oM rfl (rl_j (jb 61) je .nil h 2 rfl (fun q70 g70 h => ?_) (fun J71 h hJ71 => ?_))
     ·
      refine oA rfl (rnf (w_region (oM rfl (oM rfl ?_))))
      refine rl_j (jb 84) je .nil h 21 rfl (fun q73 g73 h => ?_) (fun J74 h hJ74 => ?_)
      ·
       refine oA rfl (rl_nil (fin_block (fin_nxt (w_region ?_))))
       exact ck_inv h fun q84 h => oV (v_add rfl rfl q84) (oM rfl (rl_nil (hL54 _ () h _ (join_imp 25 rfl rfl (mod_cons (j := 10) rfl (fun _ _ h => h) (mod_cons (j := 11) rfl (fun _ _ h => h) (mod_cons (j := 47) rfl (fun _ _ h => h) mod_nil))) (.cons .here .nil)))))
      ·
       refine rl_condM (j := 63) h rfl (fun g75 h => ?_) (fun g75 h => ?_)
       ·
        refine oP 63 rfl rfl g75 (oP 63 rfl rfl g75 (oP 63 rfl rfl g75 (op_passU rfl (dj := 66) rfl (op_passU rfl (dj := 66) rfl ?_))))
        refine op_passU rfl (dj := 66) rfl (op_passU rfl (dj := 66) rfl (op_passU rfl (dj := 66) rfl (op_passU rfl (dj := 66) rfl (op_passU rfl (dj := 66) rfl ?_))))
        refine oP 63 rfl rfl g75 (oP 63 rfl rfl g75 (op_passU rfl (dj := 75) rfl (op_passU rfl (dj := 75) rfl (op_passU rfl (dj := 75) rfl ?_))))
        refine op_passU rfl (dj := 75) rfl (op_passU rfl (dj := 75) rfl (op_passU rfl (dj := 75) rfl (op_passU rfl (dj := 75) rfl (oP 63 rfl rfl g75 ?_))))
        exact oV (v_pick_t rfl g75 rfl) (hJ74 _ () h _ (join_imp 21 rfl rfl (mod_cons (j := 84) rfl (fun _ _ h => h) mod_nil) (.cons .here .nil)))
       ·
        refine oK 63 rfl rfl rfl g75 (v_move rfl) (oK 63 rfl rfl rfl g75 (v_not rfl) (oK 63 rfl rfl rfl g75 (v_move rfl) (rl_j (jb 74) je .nil h 8 rfl (fun q76 g76 h => ?_) (fun J77 h hJ77 => ?_))))
        ·
         refine oK 63 rfl rfl rfl g75 (v_move rfl) (rl_j (jb 83) je .nil h 8 rfl (fun q80 g80 h => ?_) (fun J81 h hJ81 => ?_))
         ·
          exact oV (v_pick_f rfl g75 rfl) (hJ74 _ () h _ (join_imp 7 rfl rfl (mod_cons (j := 84) rfl (fun _ _ h => h) mod_nil) (.cons .here .nil)))
         ·
          refine rl_condM (j := 75) h rfl (fun g82 h => ?_) (fun g82 h => ?_)
          ·
           refine oK 75 rfl rfl rfl g82 (v_fi rfl GTyp.f4 fd87_4 rfl (z := y1.fields)) (oK 75 rfl rfl rfl g82 (v_loadI ty85 rfl) (oK 75 rfl rfl rfl g82 (v_move rfl) (cal_inv h fun y83 hy83 h => oK 75 rfl rfl rfl g82 (v_ix (l := y1.fields) rfl (fun _ _ h => h) rfl sl85 hy83) ?_)))
           exact oK 75 rfl rfl rfl g82 (v_fi rfl GFld.f3 fd92_3 rfl (z := y83.has)) (oK 75 rfl rfl rfl g82 (v_loadI ty4 rfl) (oK 75 rfl rfl rfl g82 (v_not rfl) (oK 63 rfl rfl rfl g75 (v_pick_t rfl g82 rfl) (hJ81 _ () h _ (join_imp 8 rfl rfl (mod_cons (j := 83) rfl (fun _ _ h => h) mod_nil) (.cons .here .nil))))))
          ·
           refine oP 75 rfl rfl g82 (oP 75 rfl rfl g82 (oP 75 rfl rfl g82 (oP 75 rfl rfl g82 (oP 75 rfl rfl g82 ?_))))
           exact oP 75 rfl rfl g82 (oP 75 rfl rfl g82 (oK 63 rfl rfl rfl g75 (v_pick_f rfl g82 rfl) (hJ81 _ () h _ (join_imp 8 rfl rfl (mod_cons (j := 83) rfl (fun _ _ h => h) mod_nil) (.cons .here .nil)))))
        ·
         refine rl_condM (j := 66) h rfl (fun g78 h => ?_) (fun g78 h => ?_)
         ·
          refine oK 66 rfl rfl rfl g78 (v_fi rfl GTyp.f4 fd87_4 rfl (z := y1.fields)) (oK 66 rfl rfl rfl g78 (v_loadI ty85 rfl) (oK 66 rfl rfl rfl g78 (v_move rfl) (cal_inv h fun y79 hy79 h => oK 66 rfl rfl rfl g78 (v_ix (l := y1.fields) rfl (fun _ _ h => h) rfl sl85 hy79) ?_)))
          exact oK 66 rfl rfl rfl g78 (v_fi rfl GFld.f2 fd92_2 rfl (z := y79.optional)) (oK 66 rfl rfl rfl g78 (v_loadI ty4 rfl) (oK 66 rfl rfl rfl g78 (v_not rfl) (oK 63 rfl rfl rfl g75 (v_pick_t rfl g78 rfl) (hJ77 _ () h _ (join_imp 8 rfl rfl (mod_cons (j := 74) rfl (fun _ _ h => h) mod_nil) (.cons .here .nil))))))
         ·
          refine oP 66 rfl rfl g78 (oP 66 rfl rfl g78 (oP 66 rfl rfl g78 (oP 66 rfl rfl g78 (oP 66 rfl rfl g78 ?_))))
          exact oP 66 rfl rfl g78 (oP 66 rfl rfl g78 (oK 63 rfl rfl rfl g75 (v_pick_f rfl g78 rfl) (hJ77 _ () h _ (join_imp 8 rfl rfl (mod_cons (j := 74) rfl (fun _ _ h => h) mod_nil) (.cons .here .nil)))))
     ·
      refine rl_condM (j := 59) h rfl (fun g72 h => ?_) (fun g72 h => ?_)
      ·
       exact oP 59 rfl rfl g72 (oV (v_pick_t rfl g72 rfl) (hJ71 _ () h _ (join_imp 2 rfl rfl (mod_cons (j := 61) rfl (fun _ _ h => h) mod_nil) (.cons .here .nil))))
      ·
       exact oK 59 rfl rfl rfl g72 (v_move rfl) (oV (v_pick_f rfl g72 rfl) (hJ71 _ () h _ (join_imp 2 rfl rfl (mod_cons (j := 61) rfl (fun _ _ h => h) mod_nil) (.cons .here .nil))))
    ·
     refine w_exit (exi_nxt (eL54 _ _ (exi_block (fin_nxt ?_))))
     refine wsr (oM rfl (oM rfl (rl_j (jb 89) je .nil h 2 rfl (fun q85 g85 h => ?_) (fun J86 h hJ86 => ?_))))
     ·
      refine rnf (w_condM h rfl (fun _ h => ?_) (fun _ h => ?_))
      ·
       refine wsr (oA rfl (rnf (w_ret (ret_block ?_))))
       refine ret_nxt (rL5 _ (ret_block (ret_nxt (ret_post (.tmp rfl .nil) (.cons .here .nil) ?_))))
       obtain rfl := Option.some.inj h
       exact ⟨rfl, rfl⟩
      ·
       exact w_skip (fin_block (hJ49 _ () h _ (join_imp 24 rfl rfl mod_nil (.cons .here .nil))))
     ·
      refine rl_condM (j := 87) h rfl (fun g87 h => ?_) (fun g87 h => ?_)
      ·
       exact oK 87 rfl rfl rfl g87 (v_move rfl) (oV (v_pick_t rfl g87 rfl) (hJ86 _ () h _ (join_imp 2 rfl rfl (mod_cons (j := 89) rfl (fun _ _ h => h) mod_nil) (.cons .here .nil))))
      ·
       exact oP 87 rfl rfl g87 (oV (v_pick_f rfl g87 rfl) (hJ86 _ () h _ (join_imp 2 rfl rfl (mod_cons (j := 89) rfl (fun _ _ h => h) mod_nil) (.cons .here .nil))))
 ·
  refine w_exit (exi_nxt (eL5 _ _ (exi_block (fin_nxt ?_))))
  refine wsr (oA rfl (rnf (w_ret (ret_post (.tmp rfl .nil) (.cons .here .nil) ?_))))
  obtain rfl := Option.some.inj h
  exact ⟨rfl, rfl⟩

end Go.Proofs.YtnnijoepfgnlfaaGreatDoor


namespace Go.Proofs.YtnnijoepfgnlfaaGreatDoor
open Go.Sy
set_option maxRecDepth 4000
def value_checker_list_c1_C (f' : Val → GChk → GTyp → Int → Option (Bool × GChk)) : Prop :=
 ∀ {a_w_ : Val} {a_a1 : GChk} {a_a2 : GTyp} {a_a3 : Int} {b_a_a1 : Nat} {r : Bool × GChk}, f' a_w_ a_a1 a_a2 a_a3 = some r → Ctr Tryz.prog 124 [isv (a_w_), immv (PtrB.mk b_a_a1), immv (a_a2), immv (a_a3)] [boxE b_a_a1 (a_a1 : GChk)] (fun R H => R = oneOf [isv (r.1)] ∧ H = [boxE b_a_a1 (r.2)])
def value_checker_fits_C (f' : GChk → Int → Val → Int → Option (Bool × GChk)) : Prop :=
 ∀ {a_c : GChk} {a_i : Int} {a_v : Val} {a_depth : Int} {b_a_c : Nat} {r : Bool × GChk}, f' a_c a_i a_v a_depth = some r → Ctr Tryz.prog 55 [ptrv b_a_c (Fld.id GChk), isv (a_i), isv (a_v), isv (a_depth)] [boxE b_a_c (a_c : GChk)] (fun R H => R = oneOf [isv (r.1)] ∧ H = [boxE b_a_c (r.2)])
def value_checker_list_C (f' : GChk → GTyp → Val → Int → Option (Bool × GChk)) : Prop :=
 ∀ {a_c : GChk} {a_x : GTyp} {a_v : Val} {a_depth : Int} {b_a_c : Nat} {r : Bool × GChk}, f' a_c a_x a_v a_depth = some r → Ctr Tryz.prog 87 [ptrv b_a_c (Fld.id GChk), isv (a_x), isv (a_v), isv (a_depth)] [boxE b_a_c (a_c : GChk)] (fun R H => R = oneOf [isv (r.1)] ∧ H = [boxE b_a_c (r.2)])
def slices_ContainsFunc_Lapi_Value_api_Value_C (f' : (List Val) → GChk → GTyp → Int → Option (Bool × GChk)) : Prop :=
 ∀ {a_s : (List Val)} {a_f_0 : GChk} {a_f_1 : GTyp} {a_f_2 : Int} {b_a_f_0 : Nat} {r : Bool × GChk}, f' a_s a_f_0 a_f_1 a_f_2 = some r → Ctr Tryz.prog 123 [isv (a_s), clov 124 [immv (PtrB.mk b_a_f_0), immv (a_f_1), immv (a_f_2)]] [boxE b_a_f_0 (a_f_0 : GChk)] (fun R H => R = oneOf [isv (r.1)] ∧ H = [boxE b_a_f_0 (r.2)])
def slices_IndexFunc_Lapi_Value_api_Value_C (f' : (List Val) → GChk → GTyp → Int → Option (Int × GChk)) : Prop :=
 ∀ {a_s : (List Val)} {a_f_0 : GChk} {a_f_1 : GTyp} {a_f_2 : Int} {b_a_f_0 : Nat} {r : Int × GChk}, f' a_s a_f_0 a_f_1 a_f_2 = some r → Ctr Tryz.prog 163 [isv (a_s), clov 124 [immv (PtrB.mk b_a_f_0), immv (a_f_1), immv (a_f_2)]] [boxE b_a_f_0 (a_f_0 : GChk)] (fun R H => R = oneOf [isv (r.1)] ∧ H = [boxE b_a_f_0 (r.2)])
def value_checker_fields_C (f' : GChk → Int → Val → Int → Option (Bool × GChk)) : Prop :=
 ∀ {a_c : GChk} {a_i : Int} {a_v : Val} {a_depth : Int} {b_a_c : Nat} {r : Bool × GChk}, f' a_c a_i a_v a_depth = some r → Ctr Tryz.prog 88 [ptrv b_a_c (Fld.id GChk), isv (a_i), isv (a_v), isv (a_depth)] [boxE b_a_c (a_c : GChk)] (fun R H => R = oneOf [isv (r.1)] ∧ H = [boxE b_a_c (r.2)])
theorem value_checker_list_c1_w0 {value_checker_list_c1' : Val → GChk → GTyp → Int → Option (Bool × GChk)} {value_checker_fits' : GChk → Int → Val → Int → Option (Bool × GChk)} {value_checker_list' : GChk → GTyp → Val → Int → Option (Bool × GChk)} {slices_ContainsFunc_Lapi_Value_api_Value' : (List Val) → GChk → GTyp → Int → Option (Bool × GChk)} {slices_IndexFunc_Lapi_Value_api_Value' : (List Val) → GChk → GTyp → Int → Option (Int × GChk)} {value_checker_fields' : GChk → Int → Val → Int → Option (Bool × GChk)} (h_value_checker_list_c1 : value_checker_list_c1_C value_checker_list_c1') (h_value_checker_fits : value_checker_fits_C value_checker_fits') (h_value_checker_list : value_checker_list_C value_checker_list') (h_slices_ContainsFunc_Lapi_Value_api_Value : slices_ContainsFunc_Lapi_Value_api_Value_C slices_ContainsFunc_Lapi_Value_api_Value') (h_slices_IndexFunc_Lapi_Value_api_Value : slices_IndexFunc_Lapi_Value_api_Value_C slices_IndexFunc_Lapi_Value_api_Value') (h_value_checker_fields : value_checker_fields_C value_checker_fields') : ∀ {a_w_ : Val} {a_a1 : GChk} {a_a2 : GTyp} {a_a3 : Int} {b_a_a1 : Nat} {r : Bool × GChk}, value_checker_list_c1_F value_checker_list_c1' value_checker_fits' value_checker_list' slices_ContainsFunc_Lapi_Value_api_Value' slices_IndexFunc_Lapi_Value_api_Value' value_checker_fields' a_w_ a_a1 a_a2 a_a3 = some r → Ctr Tryz.prog 124 [isv (a_w_), immv (PtrB.mk b_a_a1), immv (a_a2), immv (a_a3)] [boxE b_a_a1 (a_a1 : GChk)] (fun R H => R = oneOf [isv (r.1)] ∧ H = [boxE b_a_a1 (r.2)]) := by
 intro a_w_ a_a1 a_a2 a_a3 b_a_a1 r h
 unfold value_checker_list_c1_F at h
 refine spec_intro Tryz.func124 rfl (by decide +kernel) (by rfl) fun w0 S0 hT => ?_
 refine wsr (oT (t_boxIC (y := a_w_) rfl (fun _ _ h => h) (oA rfl (rnf (wsr ?_)))))
 refine oV (v_loadIP (α := GChk) ty99 rfl) (oV (v_fi rfl GTyp.f7 fd87_7 rfl (z := a_a2.of)) (oV (v_loadI ty3 rfl) (oV (v_loadI ty46 rfl) (oV (v_loadI ty3 rfl) ?_))))
 refine ck_inv h fun q1 h => oV (v_add rfl rfl q1) (cal_inv h fun y2 hy2 h => oT (t_call (h_value_checker_fits hy2) hT (.same rfl (.same rfl (.same rfl (.same rfl .nil)))) (.cons .here .nil) (fun R H' hR => ?_)))
 obtain ⟨rfl, rfl⟩ := hR
 refine oV (v_not rfl) (oA rfl (rnf (w_ret (ret_post (.tmp rfl .nil) (.cons .here .nil) ?_))))
 obtain rfl := Option.some.inj h
 exact ⟨rfl, rfl⟩

theorem value_checker_fits_w0 {value_checker_list_c1' : Val → GChk → GTyp → Int → Option (Bool × GChk)} {value_checker_fits' : GChk → Int → Val → Int → Option (Bool × GChk)} {value_checker_list' : GChk → GTyp → Val → Int → Option (Bool × GChk)} {slices_ContainsFunc_Lapi_Value_api_Value' : (List Val) → GChk → GTyp → Int → Option (Bool × GChk)} {slices_IndexFunc_Lapi_Value_api_Value' : (List Val) → GChk → GTyp → Int → Option (Int × GChk)} {value_checker_fields' : GChk → Int → Val → Int → Option (Bool × GChk)} (h_value_checker_list_c1 : value_checker_list_c1_C value_checker_list_c1') (h_value_checker_fits : value_checker_fits_C value_checker_fits') (h_value_checker_list : value_checker_list_C value_checker_list') (h_slices_ContainsFunc_Lapi_Value_api_Value : slices_ContainsFunc_Lapi_Value_api_Value_C slices_ContainsFunc_Lapi_Value_api_Value') (h_slices_IndexFunc_Lapi_Value_api_Value : slices_IndexFunc_Lapi_Value_api_Value_C slices_IndexFunc_Lapi_Value_api_Value') (h_value_checker_fields : value_checker_fields_C value_checker_fields') : ∀ {a_c : GChk} {a_i : Int} {a_v : Val} {a_depth : Int} {b_a_c : Nat} {r : Bool × GChk}, value_checker_fits_F value_checker_list_c1' value_checker_fits' value_checker_list' slices_ContainsFunc_Lapi_Value_api_Value' slices_IndexFunc_Lapi_Value_api_Value' value_checker_fields' a_c a_i a_v a_depth = some r → Ctr Tryz.prog 55 [ptrv b_a_c (Fld.id GChk), isv (a_i), isv (a_v), isv (a_depth)] [boxE b_a_c (a_c : GChk)] (fun R H => R = oneOf [isv (r.1)] ∧ H = [boxE b_a_c (r.2)]) := by
 intro a_c a_i a_v a_depth b_a_c r h
 unfold value_checker_fits_F at h
 refine spec_intro Tryz.func55 rfl (by decide +kernel) (by rfl) fun w0 S0 hT => ?_
 refine wsr (oT (t_boxIC (y := a_v) rfl (fun _ _ h => h) (oA rfl (rnf (w_seq ?_)))))
 refine wsr (oM rfl (oV (v_lss rfl rfl) (oM rfl (rl_j (jb 22) je .nil h 10 rfl (fun q1 g1 h => ?_) (fun J2 h hJ2 => ?_)))))
 ·
  refine oM rfl (rl_j (jb 26) je .nil h 3 rfl (fun q4 g4 h => ?_) (fun J5 h hJ5 => ?_))
  ·
   refine rnf (w_condM h rfl (fun _ h => ?_) (fun _ h => ?_))
   ·
    refine wsr (oA rfl (rnf (w_ret (ret_nxt ?_))))
    refine ret_post (.tmp rfl .nil) (.cons .here .nil) ?_
    obtain rfl := Option.some.inj h
    exact ⟨rfl, rfl⟩
   ·
    refine wkf (wsr (oM rfl (oV (v_nilCheck rfl) (oV (v_fa rfl GChk.f0 fd103_0) ?_))))
    refine oV (v_fa rfl GTbd.f0 fd101_0) (oV (v_fa rfl GTab.f3 fd26_3) (oT (t_loadC (R := isv (a_c.tabled.t.types)) ty24 rfl .here (fun _ _ h => h) (oM rfl (cal_inv h fun y7 hy7 h => ?_)))))
    refine oV (v_ix (l := a_c.tabled.t.types) rfl (fun _ _ h => h) rfl sl24 hy7) (oV (v_loadI ty87 rfl) (oT (t_alloc _ ze87 fun b8 => oT (t_storeC (y' := (y7 : GTyp)) ty87 rfl rfl (fun _ _ h => h) .here rfl (rl_upd (upd_imm 9 .here rfl) ?_)))))
    refine rnf (w_seq (wsr (oV (v_fi rfl Val.f0 fd46_0 rfl (z := a_v.kind)) (oV (v_loadI ty3 rfl) ?_))))
    refine oV (v_eql rfl rfl) (rnf (w_condM h rfl (fun _ h => ?_) (fun _ h => ?_)))
    ·
     refine wsr (oM rfl (oM rfl (oV (v_loadI ty46 rfl) (cal_inv h fun y9 hy9 h => ?_))))
     refine oT (t_call (value_checker_unknown_w hy9) hT (.same rfl (.same rfl (.same rfl .nil))) (.cons .here .nil) (fun R H' hR => ?_))
     obtain ⟨rfl, rfl⟩ := hR
     refine oA rfl (rnf (w_ret (ret_nxt (ret_post (.tmp rfl .nil) (.cons .here .nil) ?_))))
     obtain rfl := Option.some.inj h
     exact ⟨rfl, rfl⟩
    ·
     refine wkf (w_seq (wsr (oV (v_fi rfl Val.f0 fd46_0 rfl (z := a_v.kind)) (oV (v_loadI ty3 rfl) ?_))))
     refine oV (v_fi rfl GTyp.f0 fd87_0 rfl (z := y7.kind)) (oV (v_loadI ty3 rfl) (oV (v_neq rfl rfl) (rnf (w_condM h rfl (fun _ h => ?_) (fun _ h => ?_)))))
     ·
      refine wsr (oA rfl (rnf (w_ret (ret_nxt ?_))))
      refine ret_post (.tmp rfl .nil) (.cons .here .nil) ?_
      obtain rfl := Option.some.inj h
      exact ⟨rfl, rfl⟩
     ·
      refine wkf (w_seq (wsr (oV (v_fi rfl GTyp.f0 fd87_0 rfl (z := y7.kind)) (oV (v_loadI ty3 rfl) ?_))))
      refine rnf (w_block (wsr (oV (v_eql rfl rfl) (oA rfl ?_))))
      refine rnf (w_condM h rfl (fun _ h => ?_) (fun _ h => ?_))
      ·
       refine wsr (oV (v_loadI ty46 rfl) (cal_inv h fun y10 hy10 h => oT (t_call (value_plain_w hy10) hT (.same rfl (.same rfl .nil)) .nil (fun R H' hR => ?_))))
       obtain ⟨rfl, rfl⟩ := hR
       refine oM rfl (rl_j (jb 63) je .nil h 9 rfl (fun q11 g11 h => ?_) (fun J12 h hJ12 => ?_))
       ·
        refine oA rfl (rnf (w_ret (ret_block (ret_nxt ?_))))
        refine ret_post (.tmp rfl .nil) (.cons .here .nil) ?_
        obtain rfl := Option.some.inj h
        exact ⟨rfl, rfl⟩
       ·
        refine rl_condM (j := 54) h rfl (fun g13 h => ?_) (fun g13 h => ?_)
        ·
         refine oK 54 rfl rfl rfl g13 (v_fi rfl Val.f1 fd46_1 rfl (z := a_v.n)) (oK 54 rfl rfl rfl g13 (v_loadI ty2 rfl) (oK 54 rfl rfl rfl g13 (v_eql rfl rfl) (oK 54 rfl rfl rfl g13 (v_move rfl) (rl_j (jb 62) je .nil h 4 rfl (fun q14 g14 h => ?_) (fun J15 h hJ15 => ?_)))))
         ·
          exact oV (v_pick_t rfl g13 rfl) (hJ12 _ () h _ (join_imp 6 rfl rfl (mod_cons (j := 63) rfl (fun _ _ h => h) mod_nil) (.cons .here .nil)))
         ·
          refine rl_condM (j := 58) h rfl (fun g16 h => ?_) (fun g16 h => ?_)
          ·
           exact oP 58 rfl rfl g16 (oP 58 rfl rfl g16 (oP 58 rfl rfl g16 (oK 54 rfl rfl rfl g13 (v_pick_t rfl g16 rfl) (hJ15 _ () h _ (join_imp 4 rfl rfl (mod_cons (j := 62) rfl (fun _ _ h => h) mod_nil) (.cons .here .nil))))))
          ·
           exact oK 58 rfl rfl rfl g16 (v_fi rfl Val.f1 fd46_1 rfl (z := a_v.n)) (oK 58 rfl rfl rfl g16 (v_loadI ty2 rfl) (oK 58 rfl rfl rfl g16 (v_eql rfl rfl) (oK 54 rfl rfl rfl g13 (v_pick_f rfl g16 rfl) (hJ15 _ () h _ (join_imp 4 rfl rfl (mod_cons (j := 62) rfl (fun _ _ h => h) mod_nil) (.cons .here .nil))))))
        ·
         refine oP 54 rfl rfl g13 (oP 54 rfl rfl g13 (oP 54 rfl rfl g13 (oP 54 rfl rfl g13 (op_passU rfl (dj := 58) rfl ?_))))
         exact op_passU rfl (dj := 58) rfl (op_passU rfl (dj := 58) rfl (oP 54 rfl rfl g13 (oV (v_pick_f rfl g13 rfl) (hJ12 _ () h _ (join_imp 9 rfl rfl (mod_cons (j := 63) rfl (fun _ _ h => h) mod_nil) (.cons .here .nil))))))
      ·
       refine wsr (oV (v_eql rfl rfl) (oA rfl (rnf (w_condM h rfl (fun _ h => ?_) (fun _ h => ?_)))))
       ·
        refine wsr (oV (v_loadI ty46 rfl) (cal_inv h fun y17 hy17 h => oT (t_call (value_plain_w hy17) hT (.same rfl (.same rfl .nil)) .nil (fun R H' hR => ?_))))
        obtain ⟨rfl, rfl⟩ := hR
        refine oM rfl (rl_j (jb 79) je .nil h 11 rfl (fun q18 g18 h => ?_) (fun J19 h hJ19 => ?_))
        ·
         refine oA rfl (rnf (w_ret (ret_block (ret_nxt ?_))))
         refine ret_post (.tmp rfl .nil) (.cons .here .nil) ?_
         obtain rfl := Option.some.inj h
         exact ⟨rfl, rfl⟩
        ·
         refine rl_condM (j := 68) h rfl (fun g20 h => ?_) (fun g20 h => ?_)
         ·
          refine oK 68 rfl rfl rfl g20 (v_fi rfl GTyp.f2 fd87_2 rfl (z := y7.con)) (oK 68 rfl rfl rfl g20 (v_fi rfl GCon.f3 fd83_3 rfl (z := y7.con.more)) (oK 68 rfl rfl rfl g20 (v_loadI ty4 rfl) (oK 68 rfl rfl rfl g20 (v_move rfl) (rl_j (jb 78) je .nil h 6 rfl (fun q21 g21 h => ?_) (fun J22 h hJ22 => ?_)))))
          ·
           exact oV (v_pick_t rfl g20 rfl) (hJ19 _ () h _ (join_imp 6 rfl rfl (mod_cons (j := 79) rfl (fun _ _ h => h) mod_nil) (.cons .here .nil)))
          ·
           refine rl_condM (j := 72) h rfl (fun g23 h => ?_) (fun g23 h => ?_)
           ·
            refine oP 72 rfl rfl g23 (oP 72 rfl rfl g23 (oP 72 rfl rfl g23 (oP 72 rfl rfl g23 (oP 72 rfl rfl g23 ?_))))
            exact oK 68 rfl rfl rfl g20 (v_pick_t rfl g23 rfl) (hJ22 _ () h _ (join_imp 6 rfl rfl (mod_cons (j := 78) rfl (fun _ _ h => h) mod_nil) (.cons .here .nil)))
           ·
            refine oK 72 rfl rfl rfl g23 (v_fi rfl GTyp.f2 fd87_2 rfl (z := y7.con)) (oK 72 rfl rfl rfl g23 (v_loadI ty83 rfl) (oK 72 rfl rfl rfl g23 (v_fi rfl Val.f1 fd46_1 rfl (z := a_v.n)) (oK 72 rfl rfl rfl g23 (v_loadI ty2 rfl) (cal_inv h fun y24 hy24 h => ?_))))
            refine op_take rfl rfl (dj := 72) rfl g23 (t_call (bounds_Within_w hy24) hT (.same rfl (.same rfl .nil)) .nil (fun R H' hR => ?_))
            obtain ⟨rfl, rfl⟩ := hR
            exact oK 68 rfl rfl rfl g20 (v_pick_f rfl g23 rfl) (hJ22 _ () h _ (join_imp 6 rfl rfl (mod_cons (j := 78) rfl (fun _ _ h => h) mod_nil) (.cons .here .nil)))
         ·
          refine oP 68 rfl rfl g20 (oP 68 rfl rfl g20 (oP 68 rfl rfl g20 (oP 68 rfl rfl g20 (op_passU rfl (dj := 72) rfl ?_))))
          refine op_passU rfl (dj := 72) rfl (op_passU rfl (dj := 72) rfl (op_passU rfl (dj := 72) rfl (op_passU rfl (dj := 72) rfl (oP 68 rfl rfl g20 ?_))))
          exact oV (v_pick_f rfl g20 rfl) (hJ19 _ () h _ (join_imp 11 rfl rfl (mod_cons (j := 79) rfl (fun _ _ h => h) mod_nil) (.cons .here .nil)))
       ·
        refine wsr (oV (v_eql rfl rfl) (oA rfl (rnf (w_condM h rfl (fun _ h => ?_) (fun _ h => ?_)))))
        ·
         refine wsr (oV (v_loadI ty46 rfl) (cal_inv h fun y25 hy25 h => oT (t_call (value_plain_w hy25) hT (.same rfl (.same rfl .nil)) .nil (fun R H' hR => ?_))))
         obtain ⟨rfl, rfl⟩ := hR
         refine oM rfl (rl_j (jb 90) je .nil h 6 rfl (fun q26 g26 h => ?_) (fun J27 h hJ27 => ?_))
         ·
          refine oA rfl (rnf (w_ret (ret_block (ret_nxt ?_))))
          refine ret_post (.tmp rfl .nil) (.cons .here .nil) ?_
          obtain rfl := Option.some.inj h
          exact ⟨rfl, rfl⟩
         ·
          refine rl_condM (j := 84) h rfl (fun g28 h => ?_) (fun g28 h => ?_)
          ·
           refine oK 84 rfl rfl rfl g28 (v_loadI ty87 rfl) (oK 84 rfl rfl rfl g28 (v_fi rfl Val.f1 fd46_1 rfl (z := a_v.n)) (oK 84 rfl rfl rfl g28 (v_loadI ty2 rfl) (cal_inv h fun y29 hy29 h => op_take rfl rfl (dj := 84) rfl g28 (t_call (value_Item_w hy29) hT (.same rfl (.same rfl .nil)) .nil (fun R H' hR => ?_)))))
           obtain ⟨rfl, rfl⟩ := hR
           exact oK 84 rfl rfl rfl g28 (v_geq rfl rfl) (oV (v_pick_t rfl g28 rfl) (hJ27 _ () h _ (join_imp 6 rfl rfl (mod_cons (j := 90) rfl (fun _ _ h => h) mod_nil) (.cons .here .nil))))
          ·
           refine oP 84 rfl rfl g28 (oP 84 rfl rfl g28 (oP 84 rfl rfl g28 (oP 84 rfl rfl g28 (oP 84 rfl rfl g28 ?_))))
           exact oV (v_pick_f rfl g28 rfl) (hJ27 _ () h _ (join_imp 6 rfl rfl (mod_cons (j := 90) rfl (fun _ _ h => h) mod_nil) (.cons .here .nil)))
        ·
         refine wsr (oV (v_eql rfl rfl) (oA rfl (rnf (w_condM h rfl (fun _ h => ?_) (fun _ h => ?_)))))
         ·
          refine wsr (oV (v_loadI ty46 rfl) (cal_inv h fun y30 hy30 h => oT (t_call (value_plain_w hy30) hT (.same rfl (.same rfl .nil)) .nil (fun R H' hR => ?_))))
          obtain ⟨rfl, rfl⟩ := hR
          refine oA rfl (rnf (w_ret (ret_block (ret_nxt ?_))))
          refine ret_post (.tmp rfl .nil) (.cons .here .nil) ?_
          obtain rfl := Option.some.inj h
          exact ⟨rfl, rfl⟩
         ·
          refine w_seq (wsr (oV (v_eql rfl rfl) (oA rfl (rnf ?_))))
          refine w_J (jb 95) je .nil h (fun q31 g31 h => ?_) (fun J32 h hJ32 => ?_)
          ·
           refine w_condM h rfl (fun _ h => ?_) (fun _ h => ?_)
           ·
            refine wsr (oM rfl (oV (v_loadI ty87 rfl) (oV (v_loadI ty46 rfl) (cal_inv h fun y33 hy33 h => ?_))))
            refine oT (t_call (value_checker_string_w hy33) hT (.same rfl (.same rfl (.same rfl .nil))) (.cons .here .nil) (fun R H' hR => ?_))
            obtain ⟨rfl, rfl⟩ := hR
            refine oA rfl (rnf (w_ret (ret_block (ret_nxt ?_))))
            refine ret_post (.tmp rfl .nil) (.cons .here .nil) ?_
            obtain rfl := Option.some.inj h
            exact ⟨rfl, rfl⟩
           ·
            refine wsr (oV (v_eql rfl rfl) (oA rfl (rnf (w_condM h rfl (fun _ h => ?_) (fun _ h => ?_)))))
            ·
             refine wsr (oM rfl (oV (v_loadI ty87 rfl) (oV (v_loadI ty46 rfl) (oM rfl ?_))))
             refine cal_inv h fun y34 hy34 h => oT (t_call (h_value_checker_list hy34) hT (.same rfl (.same rfl (.same rfl (.same rfl .nil)))) (.cons .here .nil) (fun R H' hR => ?_))
             obtain ⟨rfl, rfl⟩ := hR
             refine oA rfl (rnf (w_ret (ret_block (ret_nxt ?_))))
             refine ret_post (.tmp rfl .nil) (.cons .here .nil) ?_
             obtain rfl := Option.some.inj h
             exact ⟨rfl, rfl⟩
            ·
             refine wsr (oV (v_eql rfl rfl) (oA rfl (rnf (w_condM h rfl (fun _ h => ?_) (fun _ h => ?_)))))
             ·
              refine w_seq (w_regionD (.v 0 (.t 1 (.v 2 (.v 3 (.v 4 (.v 5 (.v 6 (.v 7 (.v 8 (.v 9 (.v 10 (.v 11 (.v 12 (.v 13 (.v 14 (.v 15 (.v 16 (.v 17 (.v 18 (.v 19 (.v 20 (.v 21 (.v 22 (.v 23 (.v 24 (.v 25 (.v 26 (.v 27 (.v 28 (.v 29 (.v 30 (.v 31 (.v 32 (.v 33 (.v 34 (.v 35 (.t 36 (.v 37 (.v 38 .nil))))))))))))))))))))))))))))))))))))))) moOrd (by kernel_rfl) ?_)
              refine rd_v rfl (v_loadI ty46 rfl) (cal_inv h fun y35 hy35 h => rd_t rfl rfl (t_call (value_plain_w hy35) hT (.same rfl (.same rfl .nil)) .nil (fun R H' hR => ?_)))
              obtain ⟨rfl, rfl⟩ := hR
              refine rvm rfl rfl (rd_j (jb 117) je .nil h 4 rfl (fun q36 g36 h => ?_) (fun J37 h hJ37 => ?_))
              ·
               refine rvm rfl rfl (rd_j (jb 125) je .nil h 7 rfl (fun q39 g39 h => ?_) (fun J40 h hJ40 => ?_))
               ·
                refine rvm rfl rfl (rd_j (jb 131) je .nil h 5 rfl (fun q42 g42 h => ?_) (fun J43 h hJ43 => ?_))
                ·
                 refine rvm rfl rfl (rd_j (ι := Bool × GChk) (γ := Unit) (fun q45 g45 => [(148, isv (q45.1))]) (fun q45 g45 => [boxE b_a_c (q45.2 : GChk)]) (.cons .here .nil) h 16 rfl (fun q45 g45 h => ?_) (fun J46 h hJ46 => ?_))
                 ·
                  refine rd_v rfl (v_assign rfl) (rd_nil (fin_nxt (w_ret (ret_block ?_))))
                  refine ret_nxt (ret_post (.tmp rfl .nil) (.cons .here .nil) ?_)
                  obtain rfl := Option.some.inj h
                  exact ⟨rfl, rfl⟩
                 ·
                  refine rd_condM (j := 132) h rfl (fun g47 h => ?_) (fun g47 h => ?_)
                  ·
                   refine rvt 132 rfl rfl rfl g47 (v_move rfl) (rvt 132 rfl rfl rfl g47 (v_fi rfl GTyp.f4 fd87_4 rfl (z := y7.fields)) (rvt 132 rfl rfl rfl g47 (v_loadI ty85 rfl) (rvt 132 rfl rfl rfl g47 (v_fi rfl Val.f1 fd46_1 rfl (z := a_v.n)) (rvt 132 rfl rfl rfl g47 (v_loadI ty2 rfl) ?_))))
                   refine cal_inv h fun y48 hy48 h => rvt 132 rfl rfl rfl g47 (v_ix (l := y7.fields) rfl (fun _ _ h => h) rfl sl85 hy48) (rvt 132 rfl rfl rfl g47 (v_fi rfl GFld.f1 fd92_1 rfl (z := y48.ty)) (rvt 132 rfl rfl rfl g47 (v_loadI ty3 rfl) (rvt 132 rfl rfl rfl g47 (v_fi rfl Val.f3 fd46_3 rfl (z := a_v.l)) ?_)))
                   refine rvt 132 rfl rfl rfl g47 (v_loadI ty43 rfl) (cal_inv h fun y49 hy49 h => rvt 132 rfl rfl rfl g47 (v_ix (l := a_v.l) rfl (fun _ _ h => h) rfl sl43 hy49) (rvt 132 rfl rfl rfl g47 (v_loadI ty46 rfl) (rvt 132 rfl rfl rfl g47 (v_move rfl) ?_)))
                   refine ck_inv h fun q50 h => rvt 132 rfl rfl rfl g47 (v_add rfl rfl q50) (cal_inv h fun y51 hy51 h => rd_tt rfl rfl rfl (dj := 132) rfl g47 (t_call (h_value_checker_fits hy51) hT (.same rfl (.same rfl (.same rfl (.same rfl .nil)))) (.cons .here .nil) (fun R H' hR => ?_)))
                   obtain ⟨rfl, rfl⟩ := hR
                   exact rd_v rfl (v_pick_t rfl g47 rfl) (hJ46 _ () h _ (join_imp 16 rfl rfl (mod_cons (j := 148) rfl (fun _ _ h => h) mod_nil) (.cons .here .nil)))
                  ·
                   refine rpv 132 rfl rfl rfl g47 (rpv 132 rfl rfl rfl g47 (rpv 132 rfl rfl rfl g47 (rpv 132 rfl rfl rfl g47 (rpv 132 rfl rfl rfl g47 ?_))))
                   refine rpv 132 rfl rfl rfl g47 (rpv 132 rfl rfl rfl g47 (rpv 132 rfl rfl rfl g47 (rpv 132 rfl rfl rfl g47 (rpv 132 rfl rfl rfl g47 ?_))))
                   refine rpv 132 rfl rfl rfl g47 (rpv 132 rfl rfl rfl g47 (rpv 132 rfl rfl rfl g47 (rpv 132 rfl rfl rfl g47 (rd_passT rfl rfl (dj := 132) rfl g47 ?_))))
                   exact rd_v rfl (v_pick_f rfl g47 rfl) (hJ46 _ () h _ (join_imp 16 rfl rfl (mod_cons (j := 148) rfl (fun _ _ h => h) mod_nil) (.cons .here .nil)))
                ·
                 refine rd_condM (j := 126) h rfl (fun g44 h => ?_) (fun g44 h => ?_)
                 ·
                  refine rvt 126 rfl rfl rfl g44 (v_fi rfl Val.f3 fd46_3 rfl (z := a_v.l)) (rvt 126 rfl rfl rfl g44 (v_loadI ty43 rfl) (rvt 126 rfl rfl rfl g44 (v_ln (l := a_v.l) rfl (fun _ _ h => h) sl43) (rvt 126 rfl rfl rfl g44 (v_eql rfl rfl) (rd_v rfl (v_pick_t rfl g44 rfl) ?_))))
                  exact hJ43 _ () h _ (join_imp 5 rfl rfl (mod_cons (j := 131) rfl (fun _ _ h => h) mod_nil) (.cons .here .nil))
                 ·
                  refine rpv 126 rfl rfl rfl g44 (rpv 126 rfl rfl rfl g44 (rpv 126 rfl rfl rfl g44 (rpv 126 rfl rfl rfl g44 (rd_v rfl (v_pick_f rfl g44 rfl) ?_))))
                  exact hJ43 _ () h _ (join_imp 5 rfl rfl (mod_cons (j := 131) rfl (fun _ _ h => h) mod_nil) (.cons .here .nil))
               ·
                refine rd_condM (j := 118) h rfl (fun g41 h => ?_) (fun g41 h => ?_)
                ·
                 refine rvt 118 rfl rfl rfl g41 (v_fi rfl Val.f1 fd46_1 rfl (z := a_v.n)) (rvt 118 rfl rfl rfl g41 (v_loadI ty2 rfl) (rvt 118 rfl rfl rfl g41 (v_fi rfl GTyp.f4 fd87_4 rfl (z := y7.fields)) (rvt 118 rfl rfl rfl g41 (v_loadI ty85 rfl) (rvt 118 rfl rfl rfl g41 (v_ln (l := y7.fields) rfl (fun _ _ h => h) sl85) ?_))))
                 exact rvt 118 rfl rfl rfl g41 (v_lss rfl rfl) (rd_v rfl (v_pick_t rfl g41 rfl) (hJ40 _ () h _ (join_imp 7 rfl rfl (mod_cons (j := 125) rfl (fun _ _ h => h) mod_nil) (.cons .here .nil))))
                ·
                 refine rpv 118 rfl rfl rfl g41 (rpv 118 rfl rfl rfl g41 (rpv 118 rfl rfl rfl g41 (rpv 118 rfl rfl rfl g41 (rpv 118 rfl rfl rfl g41 ?_))))
                 exact rpv 118 rfl rfl rfl g41 (rd_v rfl (v_pick_f rfl g41 rfl) (hJ40 _ () h _ (join_imp 7 rfl rfl (mod_cons (j := 125) rfl (fun _ _ h => h) mod_nil) (.cons .here .nil))))
              ·
               refine rd_condM (j := 113) h rfl (fun g38 h => ?_) (fun g38 h => ?_)
               ·
                exact rvt 113 rfl rfl rfl g38 (v_fi rfl Val.f1 fd46_1 rfl (z := a_v.n)) (rvt 113 rfl rfl rfl g38 (v_loadI ty2 rfl) (rvt 113 rfl rfl rfl g38 (v_geq rfl rfl) (rd_v rfl (v_pick_t rfl g38 rfl) (hJ37 _ () h _ (join_imp 4 rfl rfl (mod_cons (j := 117) rfl (fun _ _ h => h) mod_nil) (.cons .here .nil))))))
               ·
                exact rpv 113 rfl rfl rfl g38 (rpv 113 rfl rfl rfl g38 (rpv 113 rfl rfl rfl g38 (rd_v rfl (v_pick_f rfl g38 rfl) (hJ37 _ () h _ (join_imp 4 rfl rfl (mod_cons (j := 117) rfl (fun _ _ h => h) mod_nil) (.cons .here .nil))))))
             ·
              refine w_seq (wsr (oV (v_eql rfl rfl) (oA rfl (rnf ?_))))
              refine w_J (jb 149) je .nil h (fun q52 g52 h => ?_) (fun J53 h hJ53 => ?_)
              ·
               refine w_condM h rfl (fun _ h => ?_) (fun _ h => ?_)
               ·
                refine wsr (oM rfl (oM rfl (oV (v_loadI ty46 rfl) (oM rfl ?_))))
                refine cal_inv h fun y54 hy54 h => oT (t_call (h_value_checker_fields hy54) hT (.same rfl (.same rfl (.same rfl (.same rfl .nil)))) (.cons .here .nil) (fun R H' hR => ?_))
                obtain ⟨rfl, rfl⟩ := hR
                refine oA rfl (rnf (w_ret (ret_block (ret_nxt ?_))))
                refine ret_post (.tmp rfl .nil) (.cons .here .nil) ?_
                obtain rfl := Option.some.inj h
                exact ⟨rfl, rfl⟩
               ·
                refine w_skip (fin_block (fin_nxt (wsr (oA rfl ?_))))
                refine rnf (w_ret (ret_post (.tmp rfl .nil) (.cons .here .nil) ?_))
                obtain rfl := Option.some.inj h
                exact ⟨rfl, rfl⟩
              ·
               refine w_condM h rfl (fun _ h => ?_) (fun _ h => ?_)
               ·
                exact w_skip (hJ53 _ () h _ (join_imp 0 rfl rfl (mod_cons (j := 149) rfl (fun _ _ h => h) mod_nil) (.cons .here .nil)))
               ·
                exact w_region (oV (v_eql rfl rfl) (oA rfl (rl_nil (hJ53 _ () h _ (join_imp 2 rfl rfl (mod_cons (j := 149) rfl (fun _ _ h => h) mod_nil) (.cons .here .nil))))))
          ·
           refine w_condM h rfl (fun _ h => ?_) (fun _ h => ?_)
           ·
            exact w_skip (hJ32 _ () h _ (join_imp 0 rfl rfl (mod_cons (j := 95) rfl (fun _ _ h => h) mod_nil) (.cons .here .nil)))
           ·
            exact w_region (oV (v_eql rfl rfl) (oA rfl (rl_nil (hJ32 _ () h _ (join_imp 2 rfl rfl (mod_cons (j := 95) rfl (fun _ _ h => h) mod_nil) (.cons .here .nil))))))
  ·
   refine rl_condM (j := 23) h rfl (fun g6 h => ?_) (fun g6 h => ?_)
   ·
    exact oP 23 rfl rfl g6 (oP 23 rfl rfl g6 (oV (v_pick_t rfl g6 rfl) (hJ5 _ () h _ (join_imp 3 rfl rfl (mod_cons (j := 26) rfl (fun _ _ h => h) mod_nil) (.cons .here .nil)))))
   ·
    exact oK 23 rfl rfl rfl g6 (v_move rfl) (oK 23 rfl rfl rfl g6 (v_gtr rfl rfl) (oV (v_pick_f rfl g6 rfl) (hJ5 _ () h _ (join_imp 3 rfl rfl (mod_cons (j := 26) rfl (fun _ _ h => h) mod_nil) (.cons .here .nil)))))
 ·
  refine rl_condM (j := 12) h rfl (fun g3 h => ?_) (fun g3 h => ?_)
  ·
   refine oP 12 rfl rfl g3 (oP 12 rfl rfl g3 (oP 12 rfl rfl g3 (oP 12 rfl rfl g3 (oP 12 rfl rfl g3 ?_))))
   refine oP 12 rfl rfl g3 (oP 12 rfl rfl g3 (oP 12 rfl rfl g3 (oP 12 rfl rfl g3 (oV (v_pick_t rfl g3 rfl) ?_))))
   exact hJ2 _ () h _ (join_imp 10 rfl rfl (mod_cons (j := 22) rfl (fun _ _ h => h) mod_nil) (.cons .here .nil))
  ·
   refine oK 12 rfl rfl rfl g3 (v_move rfl) (oK 12 rfl rfl rfl g3 (v_move rfl) (oK 12 rfl rfl rfl g3 (v_nilCheck rfl) (oK 12 rfl rfl rfl g3 (v_fa rfl GChk.f0 fd103_0) (oK 12 rfl rfl rfl g3 (v_fa rfl GTbd.f0 fd101_0) ?_))))
   refine oK 12 rfl rfl rfl g3 (v_fa rfl GTab.f3 fd26_3) (op_take rfl rfl (dj := 12) rfl g3 (t_loadC (R := isv (a_c.tabled.t.types)) ty24 rfl .here (fun _ _ h => h) (oK 12 rfl rfl rfl g3 (v_ln (l := a_c.tabled.t.types) rfl (fun _ _ h => h) sl24) (oK 12 rfl rfl rfl g3 (v_geq rfl rfl) (oV (v_pick_f rfl g3 rfl) ?_)))))
   exact hJ2 _ () h _ (join_imp 10 rfl rfl (mod_cons (j := 22) rfl (fun _ _ h => h) mod_nil) (.cons .here .nil))

theorem value_checker_list_w0 {value_checker_list_c1' : Val → GChk → GTyp → Int → Option (Bool × GChk)} {value_checker_fits' : GChk → Int → Val → Int → Option (Bool × GChk)} {value_checker_list' : GChk → GTyp → Val → Int → Option (Bool × GChk)} {slices_ContainsFunc_Lapi_Value_api_Value' : (List Val) → GChk → GTyp → Int → Option (Bool × GChk)} {slices_IndexFunc_Lapi_Value_api_Value' : (List Val) → GChk → GTyp → Int → Option (Int × GChk)} {value_checker_fields' : GChk → Int → Val → Int → Option (Bool × GChk)} (h_value_checker_list_c1 : value_checker_list_c1_C value_checker_list_c1') (h_value_checker_fits : value_checker_fits_C value_checker_fits') (h_value_checker_list : value_checker_list_C value_checker_list') (h_slices_ContainsFunc_Lapi_Value_api_Value : slices_ContainsFunc_Lapi_Value_api_Value_C slices_ContainsFunc_Lapi_Value_api_Value') (h_slices_IndexFunc_Lapi_Value_api_Value : slices_IndexFunc_Lapi_Value_api_Value_C slices_IndexFunc_Lapi_Value_api_Value') (h_value_checker_fields : value_checker_fields_C value_checker_fields') : ∀ {a_c : GChk} {a_x : GTyp} {a_v : Val} {a_depth : Int} {b_a_c : Nat} {r : Bool × GChk}, value_checker_list_F value_checker_list_c1' value_checker_fits' value_checker_list' slices_ContainsFunc_Lapi_Value_api_Value' slices_IndexFunc_Lapi_Value_api_Value' value_checker_fields' a_c a_x a_v a_depth = some r → Ctr Tryz.prog 87 [ptrv b_a_c (Fld.id GChk), isv (a_x), isv (a_v), isv (a_depth)] [boxE b_a_c (a_c : GChk)] (fun R H => R = oneOf [isv (r.1)] ∧ H = [boxE b_a_c (r.2)]) := by
 intro a_c a_x a_v a_depth b_a_c r h
 unfold value_checker_list_F at h
 refine spec_intro Tryz.func87 rfl (by decide +kernel) (by rfl) fun w0 S0 hT => ?_
 refine wsr (oT (t_boxIC (y := PtrB.mk b_a_c) rfl ptr_isv (oT (t_boxIC (y := a_x) rfl (fun _ _ h => h) (oT (t_boxIC (y := a_v) rfl (fun _ _ h => h) (oT (t_boxIC (y := a_depth) rfl (fun _ _ h => h) ?_))))))))
 refine oA rfl (rnf (wsr (oV (v_loadI ty46 rfl) (cal_inv h fun y1 hy1 h => ?_))))
 refine oT (t_call (value_plain_w hy1) hT (.same rfl (.same rfl .nil)) .nil (fun R H' hR => ?_))
 obtain ⟨rfl, rfl⟩ := hR
 refine oM rfl (rl_j (jb 23) je .nil h 12 rfl (fun q2 g2 h => ?_) (fun J3 h hJ3 => ?_))
 ·
  refine oM rfl (rl_j (ι := Bool × GChk) (γ := Unit) (fun q9 g9 => [(30, isv (q9.1))]) (fun q9 g9 => [boxE b_a_c (q9.2 : GChk)]) (.cons .here .nil) h 6 rfl (fun q9 g9 h => ?_) (fun J10 h hJ10 => ?_))
  ·
   refine oA rfl (rnf (w_ret (ret_post (.tmp rfl .nil) (.cons .here .nil) ?_)))
   obtain rfl := Option.some.inj h
   exact ⟨rfl, rfl⟩
  ·
   refine rl_condM (j := 24) h rfl (fun g11 h => ?_) (fun g11 h => ?_)
   ·
    refine oK 24 rfl rfl rfl g11 (v_fi rfl Val.f3 fd46_3 rfl (z := a_v.l)) (oK 24 rfl rfl rfl g11 (v_loadI ty43 rfl) (oK 24 rfl rfl rfl g11 (v_makeFunc (.same rfl (.same rfl (.same rfl .nil)))) (cal_inv h fun y12 hy12 h => op_take rfl rfl (dj := 24) rfl g11 (t_call (h_slices_ContainsFunc_Lapi_Value_api_Value hy12) hT (.same rfl (.same rfl .nil)) (.cons .here .nil) (fun R H' hR => ?_)))))
    obtain ⟨rfl, rfl⟩ := hR
    exact oK 24 rfl rfl rfl g11 (v_not rfl) (oV (v_pick_t rfl g11 rfl) (hJ10 _ () h _ (join_imp 6 rfl rfl (mod_cons (j := 30) rfl (fun _ _ h => h) mod_nil) (.cons .here .nil))))
   ·
    refine oP 24 rfl rfl g11 (oP 24 rfl rfl g11 (oP 24 rfl rfl g11 (oP 24 rfl rfl g11 (oP 24 rfl rfl g11 ?_))))
    exact oV (v_pick_f rfl g11 rfl) (hJ10 _ () h _ (join_imp 6 rfl rfl (mod_cons (j := 30) rfl (fun _ _ h => h) mod_nil) (.cons .here .nil)))
 ·
  refine rl_condM (j := 11) h rfl (fun g4 h => ?_) (fun g4 h => ?_)
  ·
   refine oK 11 rfl rfl rfl g4 (v_fi rfl GTyp.f2 fd87_2 rfl (z := a_x.con)) (oK 11 rfl rfl rfl g4 (v_fi rfl GCon.f3 fd83_3 rfl (z := a_x.con.more)) (oK 11 rfl rfl rfl g4 (v_loadI ty4 rfl) (oK 11 rfl rfl rfl g4 (v_move rfl) (rl_j (jb 22) je .nil h 7 rfl (fun q5 g5 h => ?_) (fun J6 h hJ6 => ?_)))))
   ·
    exact oV (v_pick_t rfl g4 rfl) (hJ3 _ () h _ (join_imp 6 rfl rfl (mod_cons (j := 23) rfl (fun _ _ h => h) mod_nil) (.cons .here .nil)))
   ·
    refine rl_condM (j := 15) h rfl (fun g7 h => ?_) (fun g7 h => ?_)
    ·
     refine oP 15 rfl rfl g7 (oP 15 rfl rfl g7 (oP 15 rfl rfl g7 (oP 15 rfl rfl g7 (oP 15 rfl rfl g7 ?_))))
     exact oP 15 rfl rfl g7 (oK 11 rfl rfl rfl g4 (v_pick_t rfl g7 rfl) (hJ6 _ () h _ (join_imp 7 rfl rfl (mod_cons (j := 22) rfl (fun _ _ h => h) mod_nil) (.cons .here .nil))))
    ·
     refine oK 15 rfl rfl rfl g7 (v_fi rfl GTyp.f2 fd87_2 rfl (z := a_x.con)) (oK 15 rfl rfl rfl g7 (v_loadI ty83 rfl) (oK 15 rfl rfl rfl g7 (v_fi rfl Val.f3 fd46_3 rfl (z := a_v.l)) (oK 15 rfl rfl rfl g7 (v_loadI ty43 rfl) (oK 15 rfl rfl rfl g7 (v_ln (l := a_v.l) rfl (fun _ _ h => h) sl43) ?_))))
     refine cal_inv h fun y8 hy8 h => op_take rfl rfl (dj := 15) rfl g7 (t_call (bounds_Within_w hy8) hT (.same rfl (.same rfl .nil)) .nil (fun R H' hR => ?_))
     obtain ⟨rfl, rfl⟩ := hR
     exact oK 11 rfl rfl rfl g4 (v_pick_f rfl g7 rfl) (hJ6 _ () h _ (join_imp 7 rfl rfl (mod_cons (j := 22) rfl (fun _ _ h => h) mod_nil) (.cons .here .nil)))
  ·
   refine oP 11 rfl rfl g4 (oP 11 rfl rfl g4 (oP 11 rfl rfl g4 (oP 11 rfl rfl g4 (op_passU rfl (dj := 15) rfl ?_))))
   refine op_passU rfl (dj := 15) rfl (op_passU rfl (dj := 15) rfl (op_passU rfl (dj := 15) rfl (op_passU rfl (dj := 15) rfl (op_passU rfl (dj := 15) rfl ?_))))
   exact oP 11 rfl rfl g4 (oV (v_pick_f rfl g4 rfl) (hJ3 _ () h _ (join_imp 12 rfl rfl (mod_cons (j := 23) rfl (fun _ _ h => h) mod_nil) (.cons .here .nil))))

theorem slices_ContainsFunc_Lapi_Value_api_Value_w0 {value_checker_list_c1' : Val → GChk → GTyp → Int → Option (Bool × GChk)} {value_checker_fits' : GChk → Int → Val → Int → Option (Bool × GChk)} {value_checker_list' : GChk → GTyp → Val → Int → Option (Bool × GChk)} {slices_ContainsFunc_Lapi_Value_api_Value' : (List Val) → GChk → GTyp → Int → Option (Bool × GChk)} {slices_IndexFunc_Lapi_Value_api_Value' : (List Val) → GChk → GTyp → Int → Option (Int × GChk)} {value_checker_fields' : GChk → Int → Val → Int → Option (Bool × GChk)} (h_value_checker_list_c1 : value_checker_list_c1_C value_checker_list_c1') (h_value_checker_fits : value_checker_fits_C value_checker_fits') (h_value_checker_list : value_checker_list_C value_checker_list') (h_slices_ContainsFunc_Lapi_Value_api_Value : slices_ContainsFunc_Lapi_Value_api_Value_C slices_ContainsFunc_Lapi_Value_api_Value') (h_slices_IndexFunc_Lapi_Value_api_Value : slices_IndexFunc_Lapi_Value_api_Value_C slices_IndexFunc_Lapi_Value_api_Value') (h_value_checker_fields : value_checker_fields_C value_checker_fields') : ∀ {a_s : (List Val)} {a_f_0 : GChk} {a_f_1 : GTyp} {a_f_2 : Int} {b_a_f_0 : Nat} {r : Bool × GChk}, slices_ContainsFunc_Lapi_Value_api_Value_F value_checker_list_c1' value_checker_fits' value_checker_list' slices_ContainsFunc_Lapi_Value_api_Value' slices_IndexFunc_Lapi_Value_api_Value' value_checker_fields' a_s a_f_0 a_f_1 a_f_2 = some r → Ctr Tryz.prog 123 [isv (a_s), clov 124 [immv (PtrB.mk b_a_f_0), immv (a_f_1), immv (a_f_2)]] [boxE b_a_f_0 (a_f_0 : GChk)] (fun R H => R = oneOf [isv (r.1)] ∧ H = [boxE b_a_f_0 (r.2)]) := by
 intro a_s a_f_0 a_f_1 a_f_2 b_a_f_0 r h
 unfold slices_ContainsFunc_Lapi_Value_api_Value_F at h
 refine spec_intro Tryz.func123 rfl (by decide +kernel) (by rfl) fun w0 S0 hT => ?_
 refine wsr (oA rfl (rnf (wsr (oM rfl ?_))))
 refine oM rfl (cal_inv h fun y1 hy1 h => oT (t_call (h_slices_IndexFunc_Lapi_Value_api_Value hy1) hT (.same rfl (.same rfl .nil)) (.cons .here .nil) (fun R H' hR => ?_)))
 obtain ⟨rfl, rfl⟩ := hR
 refine oV (v_geq rfl rfl) (oA rfl (rnf (w_ret (ret_post (.tmp rfl .nil) (.cons .here .nil) ?_))))
 obtain rfl := Option.some.inj h
 exact ⟨rfl, rfl⟩

theorem slices_IndexFunc_Lapi_Value_api_Value_w0 {value_checker_list_c1' : Val → GChk → GTyp → Int → Option (Bool × GChk)} {value_checker_fits' : GChk → Int → Val → Int → Option (Bool × GChk)} {value_checker_list' : GChk → GTyp → Val → Int → Option (Bool × GChk)} {slices_ContainsFunc_Lapi_Value_api_Value' : (List Val) → GChk → GTyp → Int → Option (Bool × GChk)} {slices_IndexFunc_Lapi_Value_api_Value' : (List Val) → GChk → GTyp → Int → Option (Int × GChk)} {value_checker_fields' : GChk → Int → Val → Int → Option (Bool × GChk)} (h_value_checker_list_c1 : value_checker_list_c1_C value_checker_list_c1') (h_value_checker_fits : value_checker_fits_C value_checker_fits') (h_value_checker_list : value_checker_list_C value_checker_list') (h_slices_ContainsFunc_Lapi_Value_api_Value : slices_ContainsFunc_Lapi_Value_api_Value_C slices_ContainsFunc_Lapi_Value_api_Value') (h_slices_IndexFunc_Lapi_Value_api_Value : slices_IndexFunc_Lapi_Value_api_Value_C slices_IndexFunc_Lapi_Value_api_Value') (h_value_checker_fields : value_checker_fields_C value_checker_fields') : ∀ {a_s : (List Val)} {a_f_0 : GChk} {a_f_1 : GTyp} {a_f_2 : Int} {b_a_f_0 : Nat} {r : Int × GChk}, slices_IndexFunc_Lapi_Value_api_Value_F value_checker_list_c1' value_checker_fits' value_checker_list' slices_ContainsFunc_Lapi_Value_api_Value' slices_IndexFunc_Lapi_Value_api_Value' value_checker_fields' a_s a_f_0 a_f_1 a_f_2 = some r → Ctr Tryz.prog 163 [isv (a_s), clov 124 [immv (PtrB.mk b_a_f_0), immv (a_f_1), immv (a_f_2)]] [boxE b_a_f_0 (a_f_0 : GChk)] (fun R H => R = oneOf [isv (r.1)] ∧ H = [boxE b_a_f_0 (r.2)]) := by
 intro a_s a_f_0 a_f_1 a_f_2 b_a_f_0 r h
 unfold slices_IndexFunc_Lapi_Value_api_Value_F at h
 refine spec_intro Tryz.func163 rfl (by decide +kernel) (by rfl) fun w0 S0 hT => ?_
 refine wsr (oA rfl (rnf (w_seq (wsr ?_))))
 refine oM rfl (oV (v_ln (l := a_s) rfl (fun _ _ h => h) sl43) (oM rfl (rnf (w_block ?_))))
 refine w_lp (ι := Int × GChk) (γ := Unit) (fun q1 g1 => [(8, isv (q1.1))]) (fun q1 g1 => [boxE b_a_f_0 (q1.2 : GChk)]) h () (mod_cons (j := 8) rfl (fun _ _ h => h) mod_nil) (.cons .here .nil) (fun L2 q1 g1 Q9 h hL2 eL2 rL2 => wsr (oV (v_lss rfl rfl) (rnf (w_seq ?_))))
 refine w_condM h rfl (fun _ h => ?_) (fun _ h => ?_)
 ·
  refine wkf (w_seq (w_block (wsr (oM rfl ?_))))
  refine oA rfl (rnf (wsr (oM rfl (oM rfl ?_))))
  refine oM rfl (cal_inv h fun y6 hy6 h => oV (v_ix (l := a_s) rfl (fun _ _ h => h) rfl sl43 hy6) (oV (v_loadI ty46 rfl) (cal_inv h fun y7 hy7 h => ?_)))
  refine oT (t_callC rfl (.same rfl .nil) (h_value_checker_list_c1 hy7) hT (.cons .here .nil) (fun R H' hR => ?_))
  obtain ⟨rfl, rfl⟩ := hR
  refine rnf (w_condM h rfl (fun _ h => ?_) (fun _ h => ?_))
  ·
   refine wsr (oM rfl (oA rfl (rnf (w_ret ?_))))
   refine ret_block (ret_nxt (rL2 _ (ret_block (ret_nxt ?_))))
   refine ret_post (.tmp rfl .nil) (.cons .here .nil) ?_
   obtain rfl := Option.some.inj h
   exact ⟨rfl, rfl⟩
  ·
   refine w_skip (fin_block (fin_nxt (w_region (ck_inv h fun q8 h => ?_))))
   exact oV (v_add rfl rfl q8) (oM rfl (rl_nil (hL2 _ () h _ (join_imp 12 rfl rfl (mod_cons (j := 8) rfl (fun _ _ h => h) mod_nil) (.cons .here .nil)))))
 ·
  refine w_exit (exi_nxt (eL2 _ _ (exi_block (fin_nxt ?_))))
  refine wsr (oA rfl (rnf (w_ret (ret_post (.tmp rfl .nil) (.cons .here .nil) ?_))))
  obtain rfl := Option.some.inj h
  exact ⟨rfl, rfl⟩

theorem value_checker_fields_w0 {value_checker_list_c1' : Val → GChk → GTyp → Int → Option (Bool × GChk)} {value_checker_fits' : GChk → Int → Val → Int → Option (Bool × GChk)} {value_checker_list' : GChk → GTyp → Val → Int → Option (Bool × GChk)} {slices_ContainsFunc_Lapi_Value_api_Value' : (List Val) → GChk → GTyp → Int → Option (Bool × GChk)} {slices_IndexFunc_Lapi_Value_api_Value' : (List Val) → GChk → GTyp → Int → Option (Int × GChk)} {value_checker_fields' : GChk → Int → Val → Int → Option (Bool × GChk)} (h_value_checker_list_c1 : value_checker_list_c1_C value_checker_list_c1') (h_value_checker_fits : value_checker_fits_C value_checker_fits') (h_value_checker_list : value_checker_list_C value_checker_list') (h_slices_ContainsFunc_Lapi_Value_api_Value : slices_ContainsFunc_Lapi_Value_api_Value_C slices_ContainsFunc_Lapi_Value_api_Value') (h_slices_IndexFunc_Lapi_Value_api_Value : slices_IndexFunc_Lapi_Value_api_Value_C slices_IndexFunc_Lapi_Value_api_Value') (h_value_checker_fields : value_checker_fields_C value_checker_fields') : ∀ {a_c : GChk} {a_i : Int} {a_v : Val} {a_depth : Int} {b_a_c : Nat} {r : Bool × GChk}, value_checker_fields_F value_checker_list_c1' value_checker_fits' value_checker_list' slices_ContainsFunc_Lapi_Value_api_Value' slices_IndexFunc_Lapi_Value_api_Value' value_checker_fields' a_c a_i a_v a_depth = some r → Ctr Tryz.prog 88 [ptrv b_a_c (Fld.id GChk), isv (a_i), isv (a_v), isv (a_depth)] [boxE b_a_c (a_c : GChk)] (fun R H => R = oneOf [isv (r.1)] ∧ H = [boxE b_a_c (r.2)]) := by
 intro a_c a_i a_v a_depth b_a_c r h
 unfold value_checker_fields_F at h
 refine spec_intro Tryz.func88 rfl (by decide +kernel) (by rfl) fun w0 S0 hT => ?_
 refine wsr (oT (t_boxIC (y := a_v) rfl (fun _ _ h => h) (oA rfl (rnf (wsr ?_)))))
 refine oM rfl (oV (v_nilCheck rfl) (oV (v_fa rfl GChk.f0 fd103_0) (oV (v_fa rfl GTbd.f0 fd101_0) (oV (v_fa rfl GTab.f3 fd26_3) ?_))))
 refine oT (t_loadC (R := isv (a_c.tabled.t.types)) ty24 rfl .here (fun _ _ h => h) (oM rfl (cal_inv h fun y1 hy1 h => oV (v_ix (l := a_c.tabled.t.types) rfl (fun _ _ h => h) rfl sl24 hy1) (oV (v_loadI ty87 rfl) ?_))))
 refine oT (t_alloc _ ze87 fun b2 => oT (t_storeC (y' := (y1 : GTyp)) ty87 rfl rfl (fun _ _ h => h) .here rfl (rl_upd (upd_imm 9 .here rfl) (rnf (w_seq ?_)))))
 refine wsr (oV (v_loadI ty46 rfl) (cal_inv h fun y3 hy3 h => oT (t_call (value_plain_w hy3) hT (.same rfl (.same rfl .nil)) .nil (fun R H' hR => ?_))))
 obtain ⟨rfl, rfl⟩ := hR
 refine oV (v_not rfl) (oM rfl (rl_j (jb 33) je .nil h 8 rfl (fun q4 g4 h => ?_) (fun J5 h hJ5 => ?_)))
 ·
  refine oM rfl (rl_j (ι := Bool × GChk) (γ := Unit) (fun q7 g7 => [(40, isv (q7.1))]) (fun q7 g7 => [boxE b_a_c (q7.2 : GChk)]) (.cons .here .nil) h 6 rfl (fun q7 g7 h => ?_) (fun J8 h hJ8 => ?_))
  ·
   refine rnf (w_condM h rfl (fun _ h => ?_) (fun _ h => ?_))
   ·
    refine wsr (oA rfl (rnf (w_ret (ret_nxt ?_))))
    refine ret_post (.tmp rfl .nil) (.cons .here .nil) ?_
    obtain rfl := Option.some.inj h
    exact ⟨rfl, rfl⟩
   ·
    refine wkf (w_seq (wsr (oV (v_fi rfl GTyp.f4 fd87_4 rfl (z := y1.fields)) (oV (v_loadI ty85 rfl) ?_))))
    refine oV (v_ln (l := y1.fields) rfl (fun _ _ h => h) sl85) (oM rfl (rnf (w_block (w_lp (ι := Int × GChk) (γ := Unit) (fun q11 g11 => [(44, isv (q11.1))]) (fun q11 g11 => [boxE b_a_c (q11.2 : GChk)]) h () (mod_cons (j := 44) rfl (fun _ _ h => h) mod_nil) (.cons .here .nil) (fun L12 q11 g11 Q57 h hL12 eL12 rL12 => ?_)))))
    refine wsr (oV (v_lss rfl rfl) (rnf (w_seq (w_condM h rfl (fun _ h => ?_) (fun _ h => ?_)))))
    ·
     refine wkf (w_seq (w_J (ι := GChk) (γ := Unit) (fun q35 g35 => []) (fun q35 g35 => [boxE b_a_c (q35 : GChk)]) (.cons .here .nil) h (fun q35 g35 h => ?_) (fun J36 h hJ36 => ?_)))
     ·
      refine w_region (ck_inv h fun q55 h => oV (v_add rfl rfl q55) (oM rfl (rl_nil ?_)))
      exact hL12 _ () h _ (join_imp 4 rfl rfl (mod_cons (j := 44) rfl (fun _ _ h => h) mod_nil) (.cons .here .nil))
     ·
      refine w_block (wsr (oM rfl (cal_inv h fun y37 hy37 h => oV (v_ix (l := y1.fields) rfl (fun _ _ h => h) rfl sl85 hy37) ?_)))
      refine oV (v_loadI ty92 rfl) (oT (t_alloc _ ze92 fun b38 => oA rfl (oT (t_storeC (y' := (y37 : GFld)) ty92 rfl rfl (fun _ _ h => h) .here rfl (rl_upd (upd_imm 11 .here rfl) ?_)))))
      refine rnf (wsr (oV (v_fi rfl Val.f3 fd46_3 rfl (z := a_v.l)) (oV (v_loadI ty43 rfl) (oM rfl ?_))))
      refine cal_inv h fun y39 hy39 h => oV (v_ix (l := a_v.l) rfl (fun _ _ h => h) rfl sl43 hy39) (oV (v_loadI ty46 rfl) (oT (t_alloc _ ze46 fun b40 => oT (t_storeC (y' := (y39 : Val)) ty46 rfl rfl (fun _ _ h => h) .here rfl ?_))))
      refine rl_upd (upd_imm 12 .here rfl) (rnf (w_block (wsr (oV (v_fi rfl Val.f0 fd46_0 rfl (z := y39.kind)) ?_))))
      refine oV (v_loadI ty3 rfl) (oV (v_eql rfl rfl) (oA rfl (rnf (w_condM h rfl (fun _ h => ?_) (fun _ h => ?_)))))
      ·
       refine wsr (oV (v_loadI ty46 rfl) (cal_inv h fun y41 hy41 h => oT (t_call (value_Absent_w hy41) hT (.same rfl .nil) .nil (fun R H' hR => ?_))))
       obtain ⟨rfl, rfl⟩ := hR
       refine oV (v_not rfl) (oM rfl (rl_j (jb 66) je .nil h 5 rfl (fun q42 g42 h => ?_) (fun J43 h hJ43 => ?_)))
       ·
        refine rnf (w_condM h rfl (fun _ h => ?_) (fun _ h => ?_))
        ·
         refine wsr (oA rfl (rnf (w_ret (ret_block ?_))))
         refine ret_block (ret_nxt (rL12 _ (ret_block (ret_nxt ?_))))
         refine ret_post (.tmp rfl .nil) (.cons .here .nil) ?_
         obtain rfl := Option.some.inj h
         exact ⟨rfl, rfl⟩
        ·
         exact w_skip (fin_block (fin_block (hJ36 _ () h _ (join_imp 22 rfl rfl mod_nil (.cons .here .nil)))))
       ·
        refine rl_condM (j := 61) h rfl (fun g44 h => ?_) (fun g44 h => ?_)
        ·
         refine oP 61 rfl rfl g44 (oP 61 rfl rfl g44 (oP 61 rfl rfl g44 (oP 61 rfl rfl g44 (oV (v_pick_t rfl g44 rfl) ?_))))
         exact hJ43 _ () h _ (join_imp 5 rfl rfl (mod_cons (j := 66) rfl (fun _ _ h => h) mod_nil) (.cons .here .nil))
        ·
         refine oK 61 rfl rfl rfl g44 (v_loadI ty87 rfl) (oK 61 rfl rfl rfl g44 (v_move rfl) (cal_inv h fun y45 hy45 h => op_take rfl rfl (dj := 61) rfl g44 (t_call (table_Loose_w hy45) hT (.same rfl (.same rfl .nil)) .nil (fun R H' hR => ?_))))
         obtain ⟨rfl, rfl⟩ := hR
         exact oK 61 rfl rfl rfl g44 (v_not rfl) (oV (v_pick_f rfl g44 rfl) (hJ43 _ () h _ (join_imp 5 rfl rfl (mod_cons (j := 66) rfl (fun _ _ h => h) mod_nil) (.cons .here .nil))))
      ·
       refine wsr (oM rfl (oV (v_fi rfl GFld.f1 fd92_1 rfl (z := y37.ty)) (oV (v_loadI ty3 rfl) (oV (v_loadI ty46 rfl) ?_))))
       refine oM rfl (ck_inv h fun q46 h => oV (v_add rfl rfl q46) (cal_inv h fun y47 hy47 h => oT (t_call (h_value_checker_fits hy47) hT (.same rfl (.same rfl (.same rfl (.same rfl .nil)))) (.cons .here .nil) (fun R H' hR => ?_))))
       obtain ⟨rfl, rfl⟩ := hR
       refine oV (v_not rfl) (oM rfl (rl_j (jb 85) je .nil h 9 rfl (fun q48 g48 h => ?_) (fun J49 h hJ49 => ?_)))
       ·
        refine oA rfl (rnf (w_condM h rfl (fun _ h => ?_) (fun _ h => ?_)))
        ·
         refine wsr (oA rfl (rnf (w_ret (ret_block ?_))))
         refine ret_block (ret_nxt (rL12 _ (ret_block (ret_nxt ?_))))
         refine ret_post (.tmp rfl .nil) (.cons .here .nil) ?_
         obtain rfl := Option.some.inj h
         exact ⟨rfl, rfl⟩
        ·
         exact w_skip (fin_block (fin_block (hJ36 _ () h _ (join_imp 28 rfl rfl mod_nil (.cons .here .nil)))))
       ·
        refine rl_condM (j := 76) h rfl (fun g50 h => ?_) (fun g50 h => ?_)
        ·
         refine oP 76 rfl rfl g50 (oP 76 rfl rfl g50 (oP 76 rfl rfl g50 (op_passU rfl (dj := 79) rfl (op_passU rfl (dj := 79) rfl ?_))))
         exact op_passU rfl (dj := 79) rfl (op_passU rfl (dj := 79) rfl (oP 76 rfl rfl g50 (oV (v_pick_t rfl g50 rfl) (hJ49 _ () h _ (join_imp 9 rfl rfl (mod_cons (j := 85) rfl (fun _ _ h => h) mod_nil) (.cons .here .nil))))))
        ·
         refine oK 76 rfl rfl rfl g50 (v_fi rfl GFld.f3 fd92_3 rfl (z := y37.has)) (oK 76 rfl rfl rfl g50 (v_loadI ty4 rfl) (oK 76 rfl rfl rfl g50 (v_move rfl) (rl_j (jb 84) je .nil h 5 rfl (fun q51 g51 h => ?_) (fun J52 h hJ52 => ?_))))
         ·
          exact oV (v_pick_f rfl g50 rfl) (hJ49 _ () h _ (join_imp 5 rfl rfl (mod_cons (j := 85) rfl (fun _ _ h => h) mod_nil) (.cons .here .nil)))
         ·
          refine rl_condM (j := 79) h rfl (fun g53 h => ?_) (fun g53 h => ?_)
          ·
           refine oK 79 rfl rfl rfl g53 (v_loadI ty46 rfl) (oK 79 rfl rfl rfl g53 (v_fi rfl GFld.f4 fd92_4 rfl (z := y37.dflt)) (oK 79 rfl rfl rfl g53 (v_loadI ty46 rfl) (cal_inv h fun y54 hy54 h => op_take rfl rfl (dj := 79) rfl g53 (t_call (value_Same_w fuel hy54) hT (.same rfl (.same rfl .nil)) .nil (fun R H' hR => ?_)))))
           obtain ⟨rfl, rfl⟩ := hR
           exact oK 76 rfl rfl rfl g50 (v_pick_t rfl g53 rfl) (hJ52 _ () h _ (join_imp 5 rfl rfl (mod_cons (j := 84) rfl (fun _ _ h => h) mod_nil) (.cons .here .nil)))
          ·
           refine oP 79 rfl rfl g53 (oP 79 rfl rfl g53 (oP 79 rfl rfl g53 (oP 79 rfl rfl g53 (oK 76 rfl rfl rfl g50 (v_pick_f rfl g53 rfl) ?_))))
           exact hJ52 _ () h _ (join_imp 5 rfl rfl (mod_cons (j := 84) rfl (fun _ _ h => h) mod_nil) (.cons .here .nil))
    ·
     refine w_exit (exi_nxt (eL12 _ _ (exi_block (fin_nxt ?_))))
     refine wsr (oM rfl (oM rfl (oV (v_loadI ty46 rfl) (cal_inv h fun y56 hy56 h => ?_))))
     refine oT (t_call (value_checker_groups_w hy56) hT (.same rfl (.same rfl (.same rfl .nil))) (.cons .here .nil) (fun R H' hR => ?_))
     obtain ⟨rfl, rfl⟩ := hR
     refine oA rfl (rnf (w_ret (ret_post (.tmp rfl .nil) (.cons .here .nil) ?_)))
     obtain rfl := Option.some.inj h
     exact ⟨rfl, rfl⟩
  ·
   refine rl_condM (j := 34) h rfl (fun g9 h => ?_) (fun g9 h => ?_)
   ·
    refine oP 34 rfl rfl g9 (oP 34 rfl rfl g9 (oP 34 rfl rfl g9 (oP 34 rfl rfl g9 (oP 34 rfl rfl g9 ?_))))
    exact oV (v_pick_t rfl g9 rfl) (hJ8 _ () h _ (join_imp 6 rfl rfl (mod_cons (j := 40) rfl (fun _ _ h => h) mod_nil) (.cons .here .nil)))
   ·
    refine oK 34 rfl rfl rfl g9 (v_move rfl) (oK 34 rfl rfl rfl g9 (v_move rfl) (oK 34 rfl rfl rfl g9 (v_loadI ty46 rfl) (cal_inv h fun y10 hy10 h => op_take rfl rfl (dj := 34) rfl g9 (t_call (value_checker_raws_w hy10) hT (.same rfl (.same rfl (.same rfl .nil))) (.cons .here .nil) (fun R H' hR => ?_)))))
    obtain ⟨rfl, rfl⟩ := hR
    exact oK 34 rfl rfl rfl g9 (v_not rfl) (oV (v_pick_f rfl g9 rfl) (hJ8 _ () h _ (join_imp 6 rfl rfl (mod_cons (j := 40) rfl (fun _ _ h => h) mod_nil) (.cons .here .nil))))
 ·
  refine rl_condM (j := 25) h rfl (fun g6 h => ?_) (fun g6 h => ?_)
  ·
   refine oP 25 rfl rfl g6 (oP 25 rfl rfl g6 (oP 25 rfl rfl g6 (oP 25 rfl rfl g6 (oP 25 rfl rfl g6 ?_))))
   exact oP 25 rfl rfl g6 (oP 25 rfl rfl g6 (oV (v_pick_t rfl g6 rfl) (hJ5 _ () h _ (join_imp 8 rfl rfl (mod_cons (j := 33) rfl (fun _ _ h => h) mod_nil) (.cons .here .nil)))))
  ·
   refine oK 25 rfl rfl rfl g6 (v_fi rfl Val.f3 fd46_3 rfl (z := a_v.l)) (oK 25 rfl rfl rfl g6 (v_loadI ty43 rfl) (oK 25 rfl rfl rfl g6 (v_ln (l := a_v.l) rfl (fun _ _ h => h) sl43) (oK 25 rfl rfl rfl g6 (v_fi rfl GTyp.f4 fd87_4 rfl (z := y1.fields)) (oK 25 rfl rfl rfl g6 (v_loadI ty85 rfl) ?_))))
   exact oK 25 rfl rfl rfl g6 (v_ln (l := y1.fields) rfl (fun _ _ h => h) sl85) (oK 25 rfl rfl rfl g6 (v_neq rfl rfl) (oV (v_pick_f rfl g6 rfl) (hJ5 _ () h _ (join_imp 8 rfl rfl (mod_cons (j := 33) rfl (fun _ _ h => h) mod_nil) (.cons .here .nil)))))

theorem value_checker_list_c1_grp_w : ∀ n, value_checker_list_c1_C (value_checker_list_c1 n) ∧ value_checker_fits_C (value_checker_fits n) ∧ value_checker_list_C (value_checker_list n) ∧ slices_ContainsFunc_Lapi_Value_api_Value_C (slices_ContainsFunc_Lapi_Value_api_Value n) ∧ slices_IndexFunc_Lapi_Value_api_Value_C (slices_IndexFunc_Lapi_Value_api_Value n) ∧ value_checker_fields_C (value_checker_fields n)
 | 0 => ⟨fun h => (by cases h), fun h => (by cases h), fun h => (by cases h), fun h => (by cases h), fun h => (by cases h), fun h => (by cases h)⟩
 | n + 1 => by
  obtain ⟨h0, h1, h2, h3, h4, h5⟩ := value_checker_list_c1_grp_w n
  exact ⟨value_checker_list_c1_w0 h0 h1 h2 h3 h4 h5, value_checker_fits_w0 h0 h1 h2 h3 h4 h5, value_checker_list_w0 h0 h1 h2 h3 h4 h5, slices_ContainsFunc_Lapi_Value_api_Value_w0 h0 h1 h2 h3 h4 h5, slices_IndexFunc_Lapi_Value_api_Value_w0 h0 h1 h2 h3 h4 h5, value_checker_fields_w0 h0 h1 h2 h3 h4 h5⟩
theorem value_checker_fits_w (n : Nat) : value_checker_fits_C (value_checker_fits n) := (value_checker_list_c1_grp_w n).2.1
def value_Count_C (f' : Val → Option (Int)) : Prop :=
 ∀ {a_v : Val} {r : Int}, f' a_v = some r → Ctr Tryz.prog 28 [isv (a_v)] [] (fun R H => R = oneOf [isv (r)] ∧ H = [])
theorem value_Count_w0 {value_Count' : Val → Option (Int)} (h_value_Count : value_Count_C value_Count') : ∀ {a_v : Val} {r : Int}, value_Count_F value_Count' a_v = some r → Ctr Tryz.prog 28 [isv (a_v)] [] (fun R H => R = oneOf [isv (r)] ∧ H = []) := by
 intro a_v r h
 unfold value_Count_F at h
 refine spec_intro Tryz.func28 rfl (by decide +kernel) (by rfl) fun w0 S0 hT => ?_
 refine wsr (oT (t_boxIC (y := a_v) rfl (fun _ _ h => h) (oA rfl (rnf (wsr ?_)))))
 refine oA rfl (rnf (w_seq (wsr (oV (v_fi rfl Val.f3 fd46_3 rfl (z := a_v.l)) ?_))))
 refine oV (v_loadI ty43 rfl) (oV (v_ln (l := a_v.l) rfl (fun _ _ h => h) sl43) (oM rfl (rnf (w_block ?_))))
 refine w_lp (ι := Int × Int) (γ := Unit) (fun q1 g1 => [(3, isv (q1.1)), (9, isv (q1.2))]) (fun q1 g1 => []) h () (mod_cons (j := 3) rfl (fun _ _ h => h) (mod_cons (j := 9) rfl (fun _ _ h => h) mod_nil)) .nil (fun L2 q1 g1 Q13 h hL2 eL2 rL2 => wsr (oV (v_lss rfl rfl) (rnf (w_seq ?_))))
 refine w_condM h rfl (fun _ h => ?_) (fun _ h => ?_)
 ·
  refine wkf (w_seq (w_block (wsr (cal_inv h fun y8 hy8 h => ?_))))
  refine oV (v_ix (l := a_v.l) rfl (fun _ _ h => h) rfl sl43 hy8) (oV (v_loadI ty46 rfl) (oT (t_alloc _ ze46 fun b9 => oT (t_storeC (y' := (y8 : Val)) ty46 rfl rfl (fun _ _ h => h) .here rfl (rl_upd (upd_imm 5 .here rfl) ?_)))))
  refine rnf (w_region (oM rfl (oV (v_loadI ty46 rfl) (cal_inv h fun y10 hy10 h => ?_))))
  refine oT (t_call (h_value_Count hy10) hT (.same rfl .nil) .nil (fun R H' hR => ?_))
  obtain ⟨rfl, rfl⟩ := hR
  refine ck_inv h fun q11 h => oV (v_add rfl rfl q11) (oA rfl (rl_nil (fin_block ?_)))
  refine fin_nxt (w_region (ck_inv h fun q12 h => oV (v_add rfl rfl q12) (oM rfl ?_)))
  exact rl_nil (hL2 _ () h _ (join_imp 14 rfl rfl (mod_cons (j := 3) rfl (fun _ _ h => h) (mod_cons (j := 9) rfl (fun _ _ h => h) mod_nil)) .nil))
 ·
  refine w_exit (exi_nxt (eL2 _ _ (exi_block (fin_nxt ?_))))
  refine wsr (oM rfl (oA rfl (rnf (w_ret ?_))))
  refine ret_post (.tmp rfl .nil) .nil ?_
  obtain rfl := Option.some.inj h
  exact ⟨rfl, rfl⟩

theorem value_Count_grp_w : ∀ n, value_Count_C (value_Count n)
 | 0 => fun h => (by cases h)
 | n + 1 => value_Count_w0 (value_Count_grp_w n)
theorem value_Count_w (n : Nat) : value_Count_C (value_Count n) := (value_Count_grp_w n)

theorem value_Fits_w : ∀ {a_t : GTab} {a_i : Int} {a_v : Val} {r : Bool}, value_Fits a_t a_i a_v = some r → Ctr Tryz.prog 25 [isv (a_t), isv (a_i), isv (a_v)] [] (fun R H => R = oneOf [isv (r)] ∧ H = []) := by
 intro a_t a_i a_v r h
 unfold value_Fits at h
 refine spec_intro Tryz.func25 rfl (by decide +kernel) (by rfl) fun w0 S0 hT => ?_
 refine wsr (oT (t_boxIC (y := a_t) rfl (fun _ _ h => h) (oT (t_boxIC (y := a_v) rfl (fun _ _ h => h) (oA rfl (rnf ?_))))))
 refine wsr (oV (v_loadI ty26 rfl) (oV (v_build (z := (GTbd.mk a_t)) rfl bu101 ze101 (.cons GTbd.f0 fd101_0 rfl (fun _ _ h => h) .nil)) (oV (v_build (z := (GChk.mk (GTbd.mk a_t) false)) rfl bu103 ze103 (.cons GChk.f0 fd103_0 rfl (fun _ _ h => h) .nil)) (oT (t_boxC (y := (GChk.mk (GTbd.mk a_t) false)) rfl (fun _ _ h => h) fun b1 => ?_)))))
 refine oA rfl (rnf (wsr (oM rfl (oM rfl ?_))))
 refine oV (v_loadI ty46 rfl) (cal_inv h fun y2 hy2 h => oT (t_call (value_checker_fits_w fuel hy2) hT (.same rfl (.same rfl (.same rfl (.same rfl .nil)))) (.cons .here .nil) (fun R H' hR => ?_)))
 obtain ⟨rfl, rfl⟩ := hR
 refine oM rfl (rl_j (jb 20) je .nil h 4 rfl (fun q3 g3 h => ?_) (fun J4 h hJ4 => ?_))
 ·
  refine oA rfl (rnf (w_ret (ret_post (.tmp rfl .nil) .nil ?_)))
  obtain rfl := Option.some.inj h
  exact ⟨rfl, rfl⟩
 ·
  refine rl_condM (j := 16) h rfl (fun g5 h => ?_) (fun g5 h => ?_)
  ·
   refine oK 16 rfl rfl rfl g5 (v_loadI ty46 rfl) (cal_inv h fun y6 hy6 h => op_take rfl rfl (dj := 16) rfl g5 (t_call (value_Count_w fuel hy6) hT (.same rfl .nil) .nil (fun R H' hR => ?_)))
   obtain ⟨rfl, rfl⟩ := hR
   exact oK 16 rfl rfl rfl g5 (v_leq rfl rfl) (oV (v_pick_t rfl g5 rfl) (hJ4 _ () h _ (join_imp 4 rfl rfl (mod_cons (j := 20) rfl (fun _ _ h => h) mod_nil) (.cons .here .nil))))
  ·
   exact oP 16 rfl rfl g5 (oP 16 rfl rfl g5 (oP 16 rfl rfl g5 (oV (v_pick_f rfl g5 rfl) (hJ4 _ () h _ (join_imp 4 rfl rfl (mod_cons (j := 20) rfl (fun _ _ h => h) mod_nil) (.cons .here .nil))))))


theorem law12_awake_w : ∀  {r : Bool}, law12_awake  = some r → Ctr Tryz.prog 24 [] [] (fun R H => R = oneOf [isv (r)] ∧ H = []) := by
 intro  r h
 unfold law12_awake at h
 refine spec_intro Tryz.func24 rfl (by decide +kernel) (by rfl) fun w0 S0 hT => ?_
 refine wsr (oA rfl (rnf (wsr (cal_inv h fun y1 hy1 h => ?_))))
 refine oT (t_call (oghamplay_Table_w hy1) hT (.same rfl .nil) .nil (fun R H' hR => ?_))
 obtain ⟨rfl, rfl⟩ := hR
 refine oM rfl (oV (v_extract rfl rfl) (oV (v_extract rfl rfl) (oT (t_alloc _ ze26 fun b2 => oT (t_storeC (y' := (y1.1 : GTab)) ty26 rfl rfl (fun _ _ h => h) .here rfl ?_)))))
 refine rl_upd (upd_imm 1 .here rfl) (oA rfl (rnf (wsr (oM rfl ?_))))
 refine oM rfl (rl_j (jb 12) je .nil h 4 rfl (fun q3 g3 h => ?_) (fun J4 h hJ4 => ?_))
 ·
  refine oM rfl (rl_j (jb 18) je .nil h 5 rfl (fun q7 g7 h => ?_) (fun J8 h hJ8 => ?_))
  ·
   refine oM rfl (rl_j (jb 23) je .nil h 4 rfl (fun q11 g11 h => ?_) (fun J12 h hJ12 => ?_))
   ·
    refine oA rfl (rnf (w_ret (ret_post (.tmp rfl .nil) .nil ?_)))
    obtain rfl := Option.some.inj h
    exact ⟨rfl, rfl⟩
   ·
    refine rl_condM (j := 19) h rfl (fun g13 h => ?_) (fun g13 h => ?_)
    ·
     refine oK 19 rfl rfl rfl g13 (v_build (z := (Val.mk (4 : Int) (0 : Int) ([] : (List UInt8)) ([] : (List Val)) (0 : Int) ([] : (List Raw)))) rfl bu46 ze46 (.cons Val.f0 fd46_0 rfl (fun _ _ h => h) .nil)) (cal_inv h fun y14 hy14 h => op_take rfl rfl (dj := 19) rfl g13 (t_call (value_Count_w fuel hy14) hT (.same rfl .nil) .nil (fun R H' hR => ?_)))
     obtain ⟨rfl, rfl⟩ := hR
     exact oK 19 rfl rfl rfl g13 (v_eql rfl rfl) (oV (v_pick_t rfl g13 rfl) (hJ12 _ () h _ (ji 4 23 rfl rfl rfl)))
    ·
     exact oP 19 rfl rfl g13 (oP 19 rfl rfl g13 (oP 19 rfl rfl g13 (oV (v_pick_f rfl g13 rfl) (hJ12 _ () h _ (ji 4 23 rfl rfl rfl)))))
  ·
   refine rl_condM (j := 13) h rfl (fun g9 h => ?_) (fun g9 h => ?_)
   ·
    refine oK 13 rfl rfl rfl g9 (v_loadI ty26 rfl) (oK 13 rfl rfl rfl g9 (v_build (z := (Val.mk (2 : Int) (8 : Int) ([] : (List UInt8)) ([] : (List Val)) (0 : Int) ([] : (List Raw)))) rfl bu46 ze46 (.cons Val.f0 fd46_0 rfl (fun _ _ h => h) (.cons Val.f1 fd46_1 rfl (fun _ _ h => h) .nil))) (cal_inv h fun y10 hy10 h => op_take rfl rfl (dj := 13) rfl g9 (t_call (value_Fits_w hy10) hT (.same rfl (.same rfl (.same rfl .nil))) .nil (fun R H' hR => ?_))))
    obtain ⟨rfl, rfl⟩ := hR
    exact oK 13 rfl rfl rfl g9 (v_not rfl) (oV (v_pick_t rfl g9 rfl) (hJ8 _ () h _ (ji 5 18 rfl rfl rfl)))
   ·
    refine oP 13 rfl rfl g9 (oP 13 rfl rfl g9 (oP 13 rfl rfl g9 (oP 13 rfl rfl g9 (oV (v_pick_f rfl g9 rfl) ?_))))
    exact hJ8 _ () h _ (ji 5 18 rfl rfl rfl)
 ·
  refine rl_condM (j := 8) h rfl (fun g5 h => ?_) (fun g5 h => ?_)
  ·
   refine oK 8 rfl rfl rfl g5 (v_loadI ty26 rfl) (oK 8 rfl rfl rfl g5 (v_build (z := (Val.mk (2 : Int) (7 : Int) ([] : (List UInt8)) ([] : (List Val)) (0 : Int) ([] : (List Raw)))) rfl bu46 ze46 (.cons Val.f0 fd46_0 rfl (fun _ _ h => h) (.cons Val.f1 fd46_1 rfl (fun _ _ h => h) .nil))) (cal_inv h fun y6 hy6 h => op_take rfl rfl (dj := 8) rfl g5 (t_call (value_Fits_w hy6) hT (.same rfl (.same rfl (.same rfl .nil))) .nil (fun R H' hR => ?_))))
   obtain ⟨rfl, rfl⟩ := hR
   exact oV (v_pick_t rfl g5 rfl) (hJ4 _ () h _ (ji 4 12 rfl rfl rfl))
  ·
   exact oP 8 rfl rfl g5 (oP 8 rfl rfl g5 (oP 8 rfl rfl g5 (oV (v_pick_f rfl g5 rfl) (hJ4 _ () h _ (ji 4 12 rfl rfl rfl)))))

end Go.Proofs.YtnnijoepfgnlfaaGreatDoor


namespace Go.Proofs.YtnnijoepfgnlfaaGreatDoor
open Go.Sy
set_option maxRecDepth 4000
theorem law12_ValueDeep_w : ∀ {a_n_ : Int} {a_cut : Int} {r : Bool}, law12_ValueDeep a_n_ a_cut = some r → Ctr Tryz.prog 7 [isv (a_n_), isv (a_cut)] [] (fun R H => R = oneOf [isv (r)] ∧ H = []) := by
 intro a_n_ a_cut r h
 unfold law12_ValueDeep at h
 refine spec_intro Tryz.func7 rfl (by decide +kernel) (by rfl) fun w0 S0 hT => ?_
 refine wsr (oA rfl (rnf (wsr (oM rfl ?_))))
 refine oV (v_toU Tryz.underlying3 Tryz.underlying39 rfl) (asr_inv h fun q1 h => oV (v_rem64 rfl rfl q1) (ck_inv h fun q2 h => oV (v_u64i Tryz.underlying39 Tryz.underlying3 rfl q2) ?_))
 refine oA rfl (rnf (wsr (oA rfl (rnf ?_))))
 refine wsr (oV (v_build (z := (Val.mk (4 : Int) (0 : Int) ([] : (List UInt8)) ([] : (List Val)) (0 : Int) ([] : (List Raw)))) rfl bu46 ze46 (.cons Val.f0 fd46_0 rfl (fun _ _ h => h) .nil)) (oT (t_alloc _ ze46 fun b3 => oT (t_storeC (y' := ((Val.mk (4 : Int) (0 : Int) ([] : (List UInt8)) ([] : (List Val)) (0 : Int) ([] : (List Raw))) : Val)) ty46 rfl rfl (fun _ _ h => h) .here rfl (rnf ?_)))))
 refine w_seq (wsr (oA rfl (rnf (w_block ?_))))
 refine w_lp (ι := Str × Int × Val) (γ := Unit) (fun q4 g4 => [(5, isv (q4.1)), (7, isv (q4.2.1))]) (fun q4 g4 => [boxE b3 (q4.2.2 : Val)]) h () (mod_cons (j := 5) rfl (fun _ _ h => h) (mod_cons (j := 7) rfl (fun _ _ h => h) mod_nil)) (.cons .here .nil) (fun L5 q4 g4 Q122 h hL5 eL5 rL5 => w_seq (wsr (oM rfl (oM rfl ?_))))
 refine oV (v_lss rfl rfl) (rnf (w_condM h rfl (fun _ h => ?_) (fun _ h => ?_)))
 ·
  refine wkf (w_seq (w_block (wsr (oM rfl ?_))))
  refine asr_inv h fun q64 h => oV (v_cat rfl rfl q64) (oA rfl (rnf (w_region ?_)))
  refine oT (t_loadC (R := isv (q4.2.2)) ty46 rfl .here (fun _ _ h => h) (oT (t_buildSlice (l := ([q4.2.2] : (List Val))) el43 (.cons rfl (fun _ _ h => h) .nil) rfl rfl (oV (v_build (z := (Val.mk (10 : Int) (0 : Int) ([] : (List UInt8)) ([q4.2.2] : (List Val)) (0 : Int) ([] : (List Raw)))) rfl bu46 ze46 (.cons Val.f0 fd46_0 rfl (fun _ _ h => h) (.cons Val.f3 fd46_3 rfl appv_isv .nil))) (oT (t_storeC (y' := ((Val.mk (10 : Int) (0 : Int) ([] : (List UInt8)) ([q4.2.2] : (List Val)) (0 : Int) ([] : (List Raw))) : Val)) ty46 rfl rfl (fun _ _ h => h) .here rfl (rl_nil ?_)))))))
  refine fin_block (fin_nxt (w_region (oM rfl (ck_inv h fun q66 h => ?_))))
  exact oV (v_add rfl rfl q66) (oA rfl (rl_nil (hL5 _ () h _ (join_imp 14 rfl rfl (mod_cons (j := 5) rfl (fun _ _ h => h) (mod_cons (j := 7) rfl (fun _ _ h => h) mod_nil)) (.cons .here .nil)))))
 ·
  refine w_exit (exi_nxt (eL5 _ _ (exi_block (fin_nxt ?_))))
  refine wsr (oM rfl (asr_inv h fun q67 h => oV (v_cat rfl rfl q67) (asr_inv h fun q68 h => ?_)))
  refine oV (v_cat rfl rfl q68) (cal_inv h fun y69 hy69 h => oT (t_call (oghamplay_Table_w hy69) hT (.same rfl .nil) .nil (fun R H' hR => ?_)))
  obtain ⟨rfl, rfl⟩ := hR
  refine oM rfl (oV (v_extract rfl rfl) (oV (v_extract rfl rfl) (oT (t_alloc _ ze26 fun b70 => oT (t_storeC (y' := (y69.1 : GTab)) ty26 rfl rfl (fun _ _ h => h) .here rfl ?_)))))
  refine rl_upd (upd_imm 8 .here rfl) (oA rfl (rnf (wsr (oT (t_loadC (R := isv (q4.2.2)) ty46 rfl .here (fun _ _ h => h) ?_)))))
  refine oT (t_alloc _ ze46 fun b71 => oT (t_storeC (y' := (q4.2.2 : Val)) ty46 rfl rfl (fun _ _ h => h) .here rfl (rnf (w_seq (wsr ?_)))))
  refine oM rfl (oV (v_toU Tryz.underlying3 Tryz.underlying39 rfl) (oM rfl (ck_inv h fun q72 h => oV (v_add rfl rfl q72) ?_)))
  refine oV (v_toU Tryz.underlying3 Tryz.underlying39 rfl) (asr_inv h fun q73 h => oV (v_rem64 rfl rfl q73) (ck_inv h fun q74 h => oV (v_u64i Tryz.underlying39 Tryz.underlying3 rfl q74) ?_))
  refine oA rfl (rnf (w_block (w_lp (ι := Int × Val) (γ := Unit) (fun q75 g75 => [(11, isv (q75.1))]) (fun q75 g75 => [boxE b71 (q75.2 : Val)]) h () (mod_cons (j := 11) rfl (fun _ _ h => h) mod_nil) (.cons .here .nil) (fun L76 q75 g75 Q121 h hL76 eL76 rL76 => w_seq ?_))))
  refine wsr (oM rfl (oV (v_gtr rfl rfl) (rnf (w_condM h rfl (fun _ h => ?_) (fun _ h => ?_)))))
  ·
   refine wkf (w_seq (w_block (w_region (oV (v_fa rfl Val.f3 fd46_3) ?_))))
   refine oT (t_loadC (R := isv (q75.2.l)) ty43 rfl .here (fun _ _ h => h) (cal_inv h fun y99 hy99 h => oV (v_ix (l := q75.2.l) rfl (fun _ _ h => h) rfl sl43 hy99) (oV (v_loadI ty46 rfl) (oT (t_storeC (y' := (y99 : Val)) ty46 rfl rfl (fun _ _ h => h) .here rfl ?_)))))
   refine rl_nil (fin_block (fin_nxt (w_region (oM rfl ?_))))
   exact ck_inv h fun q100 h => oV (v_sub rfl rfl q100) (oA rfl (rl_nil (hL76 _ () h _ (join_imp 10 rfl rfl (mod_cons (j := 11) rfl (fun _ _ h => h) mod_nil) (.cons .here (.cons .here .nil))))))
  ·
   refine w_exit (exi_nxt (eL76 _ _ (exi_block (fin_nxt ?_))))
   refine wsr (oM rfl (oV (v_toU Tryz.underlying3 Tryz.underlying39 rfl) (oM rfl (ck_inv h fun q101 h => ?_))))
   refine oV (v_add rfl rfl q101) (oV (v_toU Tryz.underlying3 Tryz.underlying39 rfl) (asr_inv h fun q102 h => oV (v_rem64 rfl rfl q102) (ck_inv h fun q103 h => ?_)))
   refine oV (v_u64i Tryz.underlying39 Tryz.underlying3 rfl q103) (oV (v_eql rfl rfl) (oA rfl (rnf (wsr ?_))))
   refine cal_inv h fun y104 hy104 h => oT (t_call (law12_awake_w hy104) hT .nil .nil (fun R H' hR => ?_))
   obtain ⟨rfl, rfl⟩ := hR
   refine oM rfl (rl_j (jb 62) je .nil h 2 rfl (fun q105 g105 h => ?_) (fun J106 h hJ106 => ?_))
   ·
    refine oM rfl (rl_j (jb 67) je .nil h 4 rfl (fun q108 g108 h => ?_) (fun J109 h hJ109 => ?_))
    ·
     refine oM rfl (rl_j (jb 74) je .nil h 6 rfl (fun q112 g112 h => ?_) (fun J113 h hJ113 => ?_))
     ·
      refine oM rfl (rl_j (jb 81) je .nil h 6 rfl (fun q116 g116 h => ?_) (fun J117 h hJ117 => ?_))
      ·
       refine oA rfl (rnf (w_ret (ret_post (.tmp rfl .nil) .nil ?_)))
       obtain rfl := Option.some.inj h
       exact ⟨rfl, rfl⟩
      ·
       refine rl_condM (j := 75) h rfl (fun g118 h => ?_) (fun g118 h => ?_)
       ·
        refine op_take rfl rfl (dj := 75) rfl g118 (t_loadC (R := isv (q4.2.2)) ty46 rfl (.there .here) (fun _ _ h => h) (cal_inv h fun y119 hy119 h => op_take rfl rfl (dj := 75) rfl g118 (t_call (value_Count_w fuel hy119) hT (.same rfl .nil) .nil (fun R H' hR => ?_))))
        obtain ⟨rfl, rfl⟩ := hR
        refine oK 75 rfl rfl rfl g118 (v_move rfl) (ck_inv h fun q120 h => oK 75 rfl rfl rfl g118 (v_add rfl rfl q120) (oK 75 rfl rfl rfl g118 (v_eql rfl rfl) (oV (v_pick_t rfl g118 rfl) ?_)))
        exact hJ117 _ () h _ (join_imp 6 rfl rfl (mod_cons (j := 81) rfl (fun _ _ h => h) mod_nil) (.cons .here (.cons .here .nil)))
       ·
        refine oP 75 rfl rfl g118 (oP 75 rfl rfl g118 (oP 75 rfl rfl g118 (oP 75 rfl rfl g118 (oP 75 rfl rfl g118 ?_))))
        exact oV (v_pick_f rfl g118 rfl) (hJ117 _ () h _ (join_imp 6 rfl rfl (mod_cons (j := 81) rfl (fun _ _ h => h) mod_nil) (.cons .here (.cons .here .nil))))
     ·
      refine rl_condM (j := 68) h rfl (fun g114 h => ?_) (fun g114 h => ?_)
      ·
       refine oK 68 rfl rfl rfl g114 (v_loadI ty26 rfl) (op_take rfl rfl (dj := 68) rfl g114 (t_loadC (R := isv (q75.2)) ty46 rfl .here (fun _ _ h => h) (cal_inv h fun y115 hy115 h => op_take rfl rfl (dj := 68) rfl g114 (t_call (value_Fits_w hy115) hT (.same rfl (.same rfl (.same rfl .nil))) .nil (fun R H' hR => ?_)))))
       obtain ⟨rfl, rfl⟩ := hR
       exact oK 68 rfl rfl rfl g114 (v_move rfl) (oK 68 rfl rfl rfl g114 (v_eqA eq4 rfl rfl) (oV (v_pick_t rfl g114 rfl) (hJ113 _ () h _ (join_imp 6 rfl rfl (mod_cons (j := 74) rfl (fun _ _ h => h) mod_nil) (.cons .here (.cons .here .nil))))))
      ·
       refine oP 68 rfl rfl g114 (oP 68 rfl rfl g114 (oP 68 rfl rfl g114 (oP 68 rfl rfl g114 (oP 68 rfl rfl g114 ?_))))
       exact oV (v_pick_f rfl g114 rfl) (hJ113 _ () h _ (join_imp 6 rfl rfl (mod_cons (j := 74) rfl (fun _ _ h => h) mod_nil) (.cons .here (.cons .here .nil))))
    ·
     refine rl_condM (j := 63) h rfl (fun g110 h => ?_) (fun g110 h => ?_)
     ·
      refine oK 63 rfl rfl rfl g110 (v_loadI ty26 rfl) (op_take rfl rfl (dj := 63) rfl g110 (t_loadC (R := isv (q4.2.2)) ty46 rfl (.there .here) (fun _ _ h => h) (cal_inv h fun y111 hy111 h => op_take rfl rfl (dj := 63) rfl g110 (t_call (value_Fits_w hy111) hT (.same rfl (.same rfl (.same rfl .nil))) .nil (fun R H' hR => ?_)))))
      obtain ⟨rfl, rfl⟩ := hR
      exact oV (v_pick_t rfl g110 rfl) (hJ109 _ () h _ (join_imp 4 rfl rfl (mod_cons (j := 67) rfl (fun _ _ h => h) mod_nil) (.cons .here (.cons .here .nil))))
     ·
      exact oP 63 rfl rfl g110 (oP 63 rfl rfl g110 (oP 63 rfl rfl g110 (oV (v_pick_f rfl g110 rfl) (hJ109 _ () h _ (join_imp 4 rfl rfl (mod_cons (j := 67) rfl (fun _ _ h => h) mod_nil) (.cons .here (.cons .here .nil)))))))
   ·
    refine rl_condM (j := 60) h rfl (fun g107 h => ?_) (fun g107 h => ?_)
    ·
     exact oK 60 rfl rfl rfl g107 (v_move rfl) (oV (v_pick_t rfl g107 rfl) (hJ106 _ () h _ (join_imp 2 rfl rfl (mod_cons (j := 62) rfl (fun _ _ h => h) mod_nil) (.cons .here (.cons .here .nil)))))
    ·
     exact oP 60 rfl rfl g107 (oV (v_pick_f rfl g107 rfl) (hJ106 _ () h _ (join_imp 2 rfl rfl (mod_cons (j := 62) rfl (fun _ _ h => h) mod_nil) (.cons .here (.cons .here .nil)))))

end Go.Proofs.YtnnijoepfgnlfaaGreatDoor


namespace Go.Sy
section tot
variable {α β ι : Type}
def T (R : β → Prop) (o : Option β) : Prop := ∃ r, o = some r ∧ R r
theorem T.some {R : β → Prop} {r : β} (h : R r) : T R (some r) := ⟨r, rfl, h⟩
theorem T.mono {R R' : β → Prop} {o : Option β} (h : T R o) (k : ∀ r, R r → R' r) : T R' o := by
  obtain ⟨r, h1, h2⟩ := h; exact ⟨r, h1, k r h2⟩
theorem T.cal {Q : α → Prop} {R : β → Prop} {m : Option α} {k : α → Option β} (h : T Q m) (hk : ∀ y, m = Option.some y → Q y → T R (k y)) : T R (cal m k) := by
  obtain ⟨y, h1, h2⟩ := h
  subst h1
  exact hk y rfl h2
theorem T.eq {R : β → Prop} {m : Option α} {k : α → Option β} {y : α} (h : m = Option.some y) (hk : T R (k y)) : T R (Sy.cal m k) := by subst h; exact hk
theorem bI64_of {x : Int} (h : inI64 x) : bI64 x = true := by
  unfold inI64 at h
  cases x with
  | ofNat n =>
    simp only [Int.ofNat_eq_natCast] at h
    exact Nat.ble_eq_true_of_le (by omega)
  | negSucc n => exact Nat.ble_eq_true_of_le (by omega)
theorem T.ck {R : β → Prop} {x : Int} {k : Option β} (hx : -9223372036854775808 ≤ x ∧ x ≤ 9223372036854775807) (h : T R k) : T R (ck x k) := by
  unfold Sy.ck; rw [bI64_of hx]; exact h
theorem T.asr {R : β → Prop} {b : Bool} {k : Option β} (hb : b = true) (h : T R k) : T R (asr b k) := by subst hb; exact h
theorem T.asd {R : β → Prop} {p : Prop} [Decidable p] {k : Option β} (hb : p) (h : T R k) : T R (Sy.asr (decide p) k) := T.asr (decide_eq_true hb) h
theorem T.abl {R : β → Prop} {a b : Nat} {k : Option β} (hb : a ≤ b) (h : T R k) : T R (Sy.asr (Nat.ble a b) k) := T.asr (Nat.ble_eq_true_of_le hb) h
theorem T.br {R : β → Prop} {b : Bool} {t e : Option β} (ht : b = true → T R t) (he : b = false → T R e) : T R (br b t e) := by
  cases b with
  | true => exact ht rfl
  | false => exact he rfl
theorem T.jp (Q : ι → Prop) {R : β → Prop} {B : (ι → Option β) → Option β} {K : ι → Option β} (hB : ∀ J, (∀ i, Q i → T R (J i)) → T R (B J)) (hK : ∀ i, Q i → T R (K i)) : T R (jp B K) := hB K hK
theorem T.lp (I : ι → Prop) (μ : ι → Nat) {R : β → Prop} {F : (ι → Option β) → ι → Option β} {i0 : ι} (h0 : I i0) (hμ : μ i0 < 1000000000000000000) (h : ∀ (L : ι → Option β) i, I i → (∀ j, I j → μ j < μ i → T R (L j)) → T R (F L i)) : T R (lp F i0) := by
  have key : ∀ n i, I i → μ i < n → T R (lpN F n i) := by
    intro n
    induction n with
    | zero => intro i _ hn; omega
    | succ n ih => intro i hi hn; exact h (lpN F n) i hi fun j hj hl => ih j hj (by omega)
  unfold Sy.lp fuel
  exact key _ _ h0 hμ
theorem getI_some {l : List α} {i : Int} (h0 : 0 ≤ i) (h1 : i < l.length) : getI l i = some (l[i.toNat]'(by omega)) := by
  unfold getI
  cases i with
  | ofNat n => simp only [Int.ofNat_eq_natCast] at h1; simp
  | negSucc n => omega
theorem T.get {R : β → Prop} {l : List α} {i : Int} {k : α → Option β} (h0 : 0 ≤ i) (h1 : i < l.length) (hk : ∀ y, l[i.toNat]? = Option.some y → T R (k y)) : T R (Sy.cal (getI l i) k) :=
  T.eq (getI_some h0 h1) (hk _ (List.getElem?_eq_getElem (by omega)))
theorem T.of {o : Option β} {R : β → Prop} {x : β} (h : o = Option.some x) (hx : R x) : T R o := ⟨x, h, hx⟩
end tot
end Go.Sy


namespace Go.Proofs.YtnnijoepfgnlfaaGreatDoor
open Go.Sy
set_option linter.unusedVariables false

theorem at_tot (s : Str) (i : Int) : T (fun r => r = (if 0 ≤ i then (s.b[i.toNat]?).getD 0 else 0)) (r04_at s i) := by
  unfold r04_at
  refine T.jp (fun q => q = decide (¬ (0 ≤ i ∧ i < s.b.length))) (fun J h => ?_) (fun q hq => ?_)
  · refine T.br (fun h1 => h _ ?_) (fun h1 => h _ ?_)
    · have := of_decide_eq_true h1; simp; omega
    · have := of_decide_eq_false h1
      by_cases h2 : (s.b.length : Int) ≤ i <;> simp [h2] <;> omega
  · subst hq
    refine T.br (fun h1 => T.some ?_) (fun h1 => ?_)
    · have h2 := of_decide_eq_true h1
      split
      · rename_i h3
        rw [List.getElem?_eq_none (by omega)]; rfl
      · rfl
    · have h2 := of_decide_eq_false h1
      refine T.get (by omega) (by omega) fun y hy => T.some ?_
      rw [if_pos (by omega), hy]; rfl

def isLetter (c : UInt8) : Bool := (decide (97 ≤ c) && decide (c ≤ 122)) || (decide (65 ≤ c) && decide (c ≤ 90))
def isDigit (c : UInt8) : Bool := decide (48 ≤ c) && decide (c ≤ 57)
theorem letter_eq (c : UInt8) : r04_letter c = some (isLetter c) := by
  unfold r04_letter isLetter jp br
  cases decide (97 ≤ c) <;> cases decide (c ≤ 122) <;> cases decide (65 ≤ c) <;> cases decide (c ≤ 90) <;> rfl
theorem digit_eq (c : UInt8) : r04_digit c = some (isDigit c) := by
  unfold r04_digit isDigit jp br
  cases decide (48 ≤ c) <;> cases decide (c ≤ 57) <;> rfl

end Go.Proofs.YtnnijoepfgnlfaaGreatDoor


namespace Go.Proofs.YtnnijoepfgnlfaaGreatDoor
open Go.Sy
set_option linter.unusedVariables false

def dval (l : List UInt8) : Nat := l.foldl (fun v d => 10 * v + (d.toNat - 48)) 0
def uval (l : List UInt8) : UInt64 := l.foldl (fun v d => 10 * v + (d - 48).toUInt64) 0
theorem uval_snoc (l : List UInt8) (d : UInt8) : uval (l ++ [d]) = 10 * uval l + (d - 48).toUInt64 := by simp [uval]
def digs (l : List UInt8) : Prop := ∀ d ∈ l, isDigit d = true
def NumOk (b : List UInt8) : Prop := ∃ ds, digs ds ∧ ds ≠ [] ∧ ds.length ≤ 19 ∧ ((b = ds ∧ dval ds < 9223372036854775808) ∨ (b = 45 :: ds ∧ 1 ≤ dval ds ∧ dval ds ≤ 9223372036854775808))

end Go.Proofs.YtnnijoepfgnlfaaGreatDoor


namespace Go.Proofs.YtnnijoepfgnlfaaGreatDoor
open Go.Sy
set_option linter.unusedVariables false

theorem in_string_tot (l : List Str) (x : Str) (hl : l.length ≤ 1000000) : T (fun r => r = decide (x ∈ l)) (h_In_string l x) := by
  unfold h_In_string
  refine T.lp (fun (k : Int) => 0 ≤ k ∧ k ≤ (l.length : Int) ∧ x ∉ l.take k.toNat) (fun (k : Int) => ((l.length : Int) - k).toNat) ⟨Int.le_refl _, by omega, by simp⟩ (by omega) fun L k hk hL => ?_
  refine T.br (fun h2 => ?_) fun h2 => T.some ?_
  · have h2 := of_decide_eq_true h2
    refine T.get hk.1 h2 fun y hy => T.br (fun h3 => T.some ?_) fun h3 => T.ck (by omega) (hL _ ⟨by omega, by omega, ?_⟩ (by omega))
    · have h3 := of_decide_eq_true h3
      subst h3
      exact (decide_eq_true (List.mem_of_getElem? hy)).symm
    · have h3 := of_decide_eq_false h3
      have e : (k + 1).toNat = k.toNat + 1 := by omega
      rw [e, List.take_add_one, hy]
      simp only [Option.toList_some, List.mem_append, List.mem_singleton, not_or]
      exact ⟨hk.2.2, fun h => h3 h.symm⟩
  · have h2 := of_decide_eq_false h2
    have h4 := hk.2.2
    rw [List.take_of_length_le (by omega)] at h4
    exact (decide_eq_false h4).symm

structure TokOk (n : Nat) (t : GTok) : Prop where
  num : t.kind = 3 → NumOk t.text.b
  len : t.text.b.length ≤ n
  at0 : 0 ≤ t.at_ ∧ t.at_ ≤ n
structure ToksOk (l : List GTok) : Prop where
  len : l.length ≤ 8001
  ok : ∀ t ∈ l, TokOk 8000 t
  last : ∃ m e, l = m ++ [e] ∧ e.kind = 0 ∧ ∀ t ∈ m, 1 ≤ t.kind ∧ t.kind ≤ 7

end Go.Proofs.YtnnijoepfgnlfaaGreatDoor


namespace Go.Proofs.YtnnijoepfgnlfaaGreatDoor
open Go.Sy
set_option linter.unusedVariables false

theorem tx {β : Type} {o : Option β} {x : β} (h : T (fun r => r = x) o) : o = some x := by
  obtain ⟨r, h1, h2⟩ := h; rw [h1, h2]
def hd : List UInt8 → UInt8
  | [] => 0
  | c :: _ => c
theorem hd_drop (b : List UInt8) (n : Nat) : hd (b.drop n) = (b[n]?).getD 0 := by
  rcases Nat.lt_or_ge n b.length with h | h
  · rw [List.drop_eq_getElem_cons h, List.getElem?_eq_getElem h]; rfl
  · rw [List.drop_eq_nil_of_le h, List.getElem?_eq_none h]; rfl
theorem dropc {b : List UInt8} {n : Nat} {y : UInt8} (h : b[n]? = some y) : b.drop n = y :: b.drop (n + 1) := by
  obtain ⟨h1, h2⟩ := List.getElem?_eq_some_iff.1 h
  rw [List.drop_eq_getElem_cons h1, h2]
theorem at_eq (s : Str) (i : Int) (h : 0 ≤ i) : r04_at s i = some (hd (s.b.drop i.toNat)) := by
  obtain ⟨r, h1, h2⟩ := at_tot s i
  rw [h1, h2, if_pos h, hd_drop]

/-! ### White -/
inductive Wst where
  | out
  | start
  | ins
  | fin
def isWh (c : UInt8) : Bool := decide (c = 32) || decide (c = 9) || decide (c = 10) || decide (c = 13)
def wh : Wst → List UInt8 → List UInt8
  | _, [] => []
  | .out, c :: r => bif isWh c then wh .out r else bif decide (c = 45) && decide (hd r = 45) then wh .start r else c :: r
  | .start, _ :: r => wh .ins r
  | .ins, c :: r => bif decide (c = 10) then wh .out r else bif decide (c = 45) && decide (hd r = 45) then wh .fin r else wh .ins r
  | .fin, _ :: r => wh .out r
theorem hd_ne {b : List UInt8} {n : Nat} (h : hd (b.drop n) = 45) : n < b.length := by
  rcases Nat.lt_or_ge n b.length with h2 | h2
  · exact h2
  · rw [List.drop_eq_nil_of_le h2] at h; cases h
theorem skip1 {b : List UInt8} {n : Nat} (h : n < b.length) : ∃ c, b.drop n = c :: b.drop (n + 1) := ⟨_, List.drop_eq_getElem_cons h⟩
theorem white_eq (s : Str) (i : Int) (h0 : 0 ≤ i) (h1 : i ≤ s.b.length) (hl : s.b.length ≤ 1000000) : r04_white s i = some ((s.b.length : Int) - ((wh .out (s.b.drop i.toNat)).length : Int)) := by
  refine tx ?_
  unfold r04_white
  refine T.lp (fun k => i ≤ k ∧ k ≤ s.b.length ∧ wh .out (s.b.drop k.toNat) = wh .out (s.b.drop i.toNat)) (fun k => (s.b.length - k).toNat) ⟨Int.le_refl _, h1, rfl⟩ (by omega) fun L k ⟨k1, k2, k3⟩ hL => ?_
  rw [← k3] at hL ⊢
  refine T.br (fun hb => ?_) (fun hb => T.some ?_)
  rotate_left
  · have hb := of_decide_eq_false hb
    rw [List.drop_eq_nil_of_le (by omega)]
    simp only [wh, List.length_nil]; omega
  have hb := of_decide_eq_true hb
  refine T.get (by omega) hb fun y hy => ?_
  have e := dropc hy
  have e1 : (k + 1).toNat = k.toNat + 1 := by omega
  refine T.jp (fun q => q = (decide (y = 32) || decide (y = 9))) (fun J h => T.br (fun h2 => h _ (by rw [h2]; rfl)) fun h2 => T.get (by omega) hb fun y' hy' => h _ (by rw [hy] at hy'; cases hy'; rw [h2]; rfl)) fun q hq => ?_
  refine T.jp (fun q' => q' = (q || decide (y = 10))) (fun J h => T.br (fun h2 => h _ (by rw [h2]; rfl)) fun h2 => T.get (by omega) hb fun y' hy' => h _ (by rw [hy] at hy'; cases hy'; rw [h2]; rfl)) fun q' hq' => ?_
  refine T.jp (fun q2 => q2 = (q' || decide (y = 13))) (fun J h => T.br (fun h2 => h _ (by rw [h2]; rfl)) fun h2 => T.get (by omega) hb fun y' hy' => h _ (by rw [hy] at hy'; cases hy'; rw [h2]; rfl)) fun q2 hq2 => ?_
  have hw : q2 = isWh y := by rw [hq2, hq', hq]; rfl
  refine T.br (fun h2 => T.ck (by omega) ?_) fun h2 => ?_
  · refine hL _ ⟨by omega, by omega, ?_⟩ (by omega)
    rw [e1, e]; simp only [wh, ← hw, h2, cond_true]
  refine T.get (by omega) hb fun y' hy' => ?_
  rw [hy] at hy'; cases hy'
  refine T.jp (fun q => q = (decide (y = 45) && decide (hd (s.b.drop (k.toNat + 1)) = 45))) (fun J h => T.br (fun h3 => T.ck (by omega) (T.eq (at_eq s _ (by omega)) (h _ (by rw [h3, e1]; rfl)))) fun h3 => h _ (by rw [h3]; rfl)) fun q3 hq3 => ?_
  refine T.br (fun h3 => T.ck (by omega) ?_) (fun h3 => T.some ?_)
  rotate_left
  · rw [e]; simp only [wh, ← hw, h2, cond_false, ← hq3, h3, List.length_cons, List.length_drop]; omega
  have h45 : hd (s.b.drop (k.toNat + 1)) = 45 := by rw [hq3] at h3; simpa using (Bool.and_eq_true_iff.1 h3).2
  have hlt := hd_ne h45
  obtain ⟨c, ec⟩ := skip1 hlt
  have e2 : (k + 2).toNat = k.toNat + 1 + 1 := by omega
  have hins : wh .out (s.b.drop k.toNat) = wh .ins (s.b.drop (k + 2).toNat) := by
    rw [e, e2]; simp only [wh, ← hw, h2, cond_false, ← hq3, h3, cond_true]; rw [ec]; simp only [wh]
  refine T.lp (fun j => k + 2 ≤ j ∧ j ≤ s.b.length ∧ wh .out (s.b.drop k.toNat) = wh .ins (s.b.drop j.toNat)) (fun j => (s.b.length - j).toNat) ⟨Int.le_refl _, by omega, hins⟩ (by omega) fun L2 j ⟨j1, j2, j3⟩ hL2 => ?_
  refine T.jp (fun q => (q = true → j < s.b.length ∧ ∀ y, s.b[j.toNat]? = some y → y ≠ 10) ∧ (q = false → wh .out (s.b.drop j.toNat) = wh .ins (s.b.drop j.toNat))) (fun J h => T.br (fun h4 => ?_) fun h4 => h _ ⟨(fun h => by cases h), fun _ => ?_⟩) fun q hq => ?_
  · have h4 := of_decide_eq_true h4
    refine T.get (by omega) h4 fun y2 hy2 => h _ ⟨fun h5 => ⟨h4, fun y3 hy3 => ?_⟩, fun h5 => ?_⟩
    · rw [hy2] at hy3; cases hy3; simpa using h5
    · have h6 : y2 = 10 := by simpa using h5
      subst h6
      rw [dropc hy2]
      simp [wh, isWh]
  · have h4 := of_decide_eq_false h4
    rw [List.drop_eq_nil_of_le (by omega)]; simp only [wh]
  refine T.br (fun h4 => ?_) (fun h4 => hL _ ⟨by omega, j2, by rw [hq.2 h4, j3]⟩ (by omega))
  obtain ⟨hj, hne⟩ := hq.1 h4
  refine T.get (by omega) hj fun y2 hy2 => ?_
  have hy10 := hne y2 hy2
  have f := dropc hy2
  have f1 : (j + 1).toNat = j.toNat + 1 := by omega
  refine T.jp (fun q => q = (decide (y2 = 45) && decide (hd (s.b.drop (j.toNat + 1)) = 45))) (fun J h => T.br (fun h3 => T.ck (by omega) (T.eq (at_eq s _ (by omega)) (h _ (by rw [h3, f1]; rfl)))) fun h3 => h _ (by rw [h3]; rfl)) fun q4 hq4 => ?_
  refine T.br (fun h5 => T.ck (by omega) ?_) (fun h5 => T.ck (by omega) (hL2 _ ⟨by omega, by omega, ?_⟩ (by omega)))
  · have h46 : hd (s.b.drop (j.toNat + 1)) = 45 := by rw [hq4] at h5; simpa using (Bool.and_eq_true_iff.1 h5).2
    have hlt2 := hd_ne h46
    obtain ⟨c2, ec2⟩ := skip1 hlt2
    have f2 : (j + 2).toNat = j.toNat + 1 + 1 := by omega
    refine hL _ ⟨by omega, by omega, ?_⟩ (by omega)
    rw [j3, f, f2]; simp only [wh, decide_eq_false hy10, cond_false, ← hq4, h5, cond_true]; rw [ec2]; simp only [wh]
  · rw [j3, f, f1]; simp only [wh, decide_eq_false hy10, cond_false, ← hq4, h5]

/-! ### Names -/
def inName (c : UInt8) (r : List UInt8) : Bool := isLetter c || isDigit c || (decide (c = 45) && !decide (hd r = 45))
def nm : List UInt8 → Nat
  | [] => 0
  | c :: r => bif inName c r then nm r + 1 else 0
theorem nm_cons (c : UInt8) (r : List UInt8) : nm (c :: r) = bif inName c r then nm r + 1 else 0 := rfl
theorem nm_le : ∀ b : List UInt8, nm b ≤ b.length
  | [] => Nat.le_refl _
  | c :: r => by
    have := nm_le r
    unfold nm
    cases inName c r <;> simp <;> omega
def nmBad (b : List UInt8) : Bool := decide ((b.take (nm b)).getLast? = some 45) || decide (60 < nm b)
theorem last_take {b : List UInt8} {n : Nat} {y : UInt8} (hn : 0 < n) (hy : b[n - 1]? = some y) : (b.take n).getLast? = some y := by
  have hlt := (List.getElem?_eq_some_iff.1 hy).1
  rw [List.getLast?_eq_getElem?, List.length_take, List.getElem?_take, Nat.min_eq_left (by omega), if_pos (by omega), hy]
theorem name_eq (s : Str) (i : Int) (h0 : 0 ≤ i) (h1 : i < s.b.length) (hl : s.b.length ≤ 1000000) (hc : isLetter (hd (s.b.drop i.toNat)) = true) :
    r04_name s i = some (bif nmBad (s.b.drop i.toNat) then -1 else i + nm (s.b.drop i.toNat)) := by
  refine tx ?_
  unfold r04_name
  have hi0 : 0 < nm (s.b.drop i.toNat) := by
    obtain ⟨c, ec⟩ := skip1 (b := s.b) (n := i.toNat) (by omega)
    rw [ec] at hc ⊢
    unfold nm inName
    simp only [hd] at hc
    rw [hc]; simp
  refine T.lp (fun k => i ≤ k ∧ k ≤ s.b.length ∧ (nm (s.b.drop i.toNat) : Int) = k - i + nm (s.b.drop k.toNat)) (fun k => (s.b.length - k).toNat) ⟨Int.le_refl _, by omega, by omega⟩ (by omega) fun L k ⟨k1, k2, k3⟩ hL => ?_
  refine T.jp (fun q => (q = true → k < s.b.length ∧ (nm (s.b.drop i.toNat) : Int) = k + 1 - i + nm (s.b.drop (k + 1).toNat)) ∧ (q = false → (nm (s.b.drop i.toNat) : Int) = k - i)) (fun J h => ?_) fun q hq => ?_
  · refine T.br (fun hb => ?_) (fun hb => h _ ⟨(fun h => by cases h), fun _ => by
      have := of_decide_eq_false hb
      rw [List.drop_eq_nil_of_le (as := s.b) (i := k.toNat) (by omega)] at k3
      simpa [nm] using k3⟩)
    have hb := of_decide_eq_true hb
    refine T.get (by omega) hb fun y hy => ?_
    have e := dropc hy
    have e1 : (k + 1).toNat = k.toNat + 1 := by omega
    refine T.eq (letter_eq y) ?_
    refine T.jp (fun q => q = (isLetter y || isDigit y)) (fun J2 h2 => T.br (fun h3 => h2 _ (by rw [h3]; rfl)) fun h3 => T.get (by omega) hb fun y2 hy2 => T.eq (digit_eq y2) (h2 _ (by rw [hy] at hy2; cases hy2; rw [h3]; rfl))) fun q hq => ?_
    refine T.jp (fun q2 => q2 = inName y (s.b.drop (k.toNat + 1))) (fun J2 h2 => T.br (fun h3 => h2 _ (by unfold inName; rw [← hq, h3]; rfl)) fun h3 => T.get (by omega) hb fun y2 hy2 => ?_) fun q2 hq2 => ?_
    · rw [hy] at hy2; cases hy2
      refine T.jp (fun q3 => q3 = (decide (y = 45) && !decide (hd (s.b.drop (k.toNat + 1)) = 45))) (fun J3 h4 => T.br (fun h5 => T.ck (by omega) (T.eq (at_eq s _ (by omega)) (h4 _ (by rw [h5, e1]; rfl)))) fun h5 => h4 _ (by rw [h5]; rfl)) fun q3 hq3 => h2 _ ?_
      unfold inName; rw [← hq, h3, hq3]; rfl
    · rw [e, nm_cons] at k3
      refine h _ ⟨fun h3 => ⟨hb, ?_⟩, fun h3 => ?_⟩
      · rw [← hq2, h3, cond_true] at k3
        rw [e1]; omega
      · rw [← hq2, h3, cond_false] at k3
        omega
  refine T.br (fun hb => T.ck (by have := hq.1 hb; omega) (hL _ ⟨by omega, by have := hq.1 hb; omega, (hq.1 hb).2⟩ (by have := hq.1 hb; omega))) fun hb => ?_
  have hn := hq.2 hb
  refine T.ck (by omega) (T.get (by omega) (by omega) fun y hy => ?_)
  have hlast : ((s.b.drop i.toNat).take (nm (s.b.drop i.toNat))).getLast? = some y := by
    refine last_take hi0 ?_
    rw [List.getElem?_drop]
    have : i.toNat + (nm (s.b.drop i.toNat) - 1) = (k - 1).toNat := by omega
    rw [this, hy]
  refine T.jp (fun q => q = nmBad (s.b.drop i.toNat)) (fun J h => T.br (fun h3 => h _ ?_) fun h3 => T.ck (by omega) (h _ ?_)) fun q hq => ?_
  · unfold nmBad
    rw [hlast]
    have := of_decide_eq_true h3
    subst this; rfl
  · unfold nmBad
    rw [hlast]
    have := of_decide_eq_false h3
    have e : decide (some y = some (45 : UInt8)) = false := by simpa using this
    rw [e, Bool.false_or, decide_eq_decide]
    omega
  · rw [← hq]
    exact T.br (fun h3 => T.some (by rw [h3]; rfl)) fun h3 => T.some (by rw [h3, cond_false]; omega)
end Go.Proofs.YtnnijoepfgnlfaaGreatDoor


namespace Go.Proofs.YtnnijoepfgnlfaaGreatDoor
open Go.Sy
set_option linter.unusedVariables false

theorem seg {b : List UInt8} {i k : Nat} : (b.take k).drop i = (b.drop i).take (k - i) := by rw [List.drop_take]
theorem get_drop {b : List UInt8} {i n : Nat} {y : UInt8} (h : b[i + n]? = some y) : (b.drop i)[n]? = some y := by rw [List.getElem?_drop, h]
theorem take_snoc {b : List UInt8} {n : Nat} {y : UInt8} (h : b[n]? = some y) : b.take (n + 1) = b.take n ++ [y] := by rw [List.take_add_one, h]; rfl

/-! ### Numbers -/
def dg : List UInt8 → Nat
  | [] => 0
  | c :: r => bif isDigit c then dg r + 1 else 0
theorem dg_cons (c : UInt8) (r : List UInt8) : dg (c :: r) = bif isDigit c then dg r + 1 else 0 := rfl
theorem dg_le : ∀ b : List UInt8, dg b ≤ b.length
  | [] => Nat.le_refl _
  | c :: r => by
    have := dg_le r
    rw [dg_cons]
    cases isDigit c <;> simp <;> omega
def numBad (m : Bool) (d : List UInt8) : Bool :=
  decide (dg d < 1) || decide (19 < dg d) || (decide (1 < dg d) && decide (hd d = 48)) || (m && decide (hd d = 48)) || isLetter (hd (d.drop (dg d))) ||
    decide (9223372036854775808 < uval (d.take (dg d))) || (!m && decide (uval (d.take (dg d)) = 9223372036854775808))
def numLen (b : List UInt8) : Option Nat :=
  bif decide (hd b = 45) then bif numBad true (b.drop 1) then none else some (dg (b.drop 1) + 1)
  else bif numBad false b then none else some (dg b)
theorem number_eq (s : Str) (i : Int) (h0 : 0 ≤ i) (h1 : i < s.b.length) (hl : s.b.length ≤ 1000000) :
    r04_number s i = some (match numLen (s.b.drop i.toNat) with
      | none => -1
      | some n => i + (n : Int)) := by
  refine tx ?_
  unfold r04_number
  refine T.get h0 h1 fun y1 hy1 => ?_
  have hd1 : hd (s.b.drop i.toNat) = y1 := by rw [dropc hy1]; rfl
  refine T.jp (fun f => i ≤ f ∧ f ≤ i + 1 ∧ numLen (s.b.drop i.toNat) = (bif numBad (decide (y1 = 45)) (s.b.drop f.toNat) then none else some (dg (s.b.drop f.toNat) + (f - i).toNat))) (fun J h => T.br (fun hb => T.ck (by omega) (h _ ⟨by omega, by omega, ?_⟩)) fun hb => h _ ⟨by omega, by omega, ?_⟩) fun f ⟨f1, f2, f3⟩ => ?_
  · have e1 : (i + 1).toNat = i.toNat + 1 := by omega
    have e2 : (i + 1 - i).toNat = 1 := by omega
    unfold numLen
    rw [hd1, hb, cond_true, e1, e2, List.drop_drop]
  · have e2 : (i - i).toNat = 0 := by omega
    unfold numLen
    rw [hd1, hb, cond_false, e2, Nat.add_zero]
  have hfl : f ≤ s.b.length := by omega
  have hgoal : ∀ k : Int, (dg (s.b.drop f.toNat) : Int) = k - f → (match numLen (s.b.drop i.toNat) with
      | none => -1
      | some n => i + (n : Int)) = bif numBad (decide (y1 = 45)) (s.b.drop f.toNat) then -1 else k := by
    intro k hk
    rw [f3]
    cases numBad (decide (y1 = 45)) (s.b.drop f.toNat) with
    | true => rfl
    | false =>
      show i + ((dg (s.b.drop f.toNat) + (f - i).toNat : Nat) : Int) = k
      omega
  refine T.lp (ι := Int × UInt64) (fun q => f ≤ q.1 ∧ q.1 ≤ s.b.length ∧ (dg (s.b.drop f.toNat) : Int) = q.1 - f + dg (s.b.drop q.1.toNat) ∧ (q.1 - f ≤ 19 → q.2 = uval ((s.b.drop f.toNat).take (q.1.toNat - f.toNat)))) (fun q => (s.b.length - q.1).toNat)
    ⟨Int.le_refl _, hfl, by dsimp only; omega, fun _ => by rw [Nat.sub_self]; rfl⟩ (by simp only; omega) fun L q hq hL => ?_
  obtain ⟨k, v⟩ := q
  obtain ⟨hq1, hq2, hq3, hq4⟩ := hq
  simp only at hq1 hq2 hq3 hq4 ⊢
  refine T.jp (fun b => (b = true → k < s.b.length ∧ (dg (s.b.drop f.toNat) : Int) = k + 1 - f + dg (s.b.drop (k + 1).toNat)) ∧ (b = false → (dg (s.b.drop f.toNat) : Int) = k - f)) (fun J h => ?_) fun b hb => ?_
  · refine T.br (fun h2 => ?_) fun h2 => h _ ⟨(fun h => by cases h), fun _ => ?_⟩
    · have h2 := of_decide_eq_true h2
      have ek : (k + 1).toNat = k.toNat + 1 := by omega
      refine T.get (by omega) h2 fun y hy => T.eq (digit_eq y) (h _ ?_)
      rw [dropc hy, dg_cons] at hq3
      rw [ek]
      refine ⟨fun hd => ⟨h2, ?_⟩, fun hd => ?_⟩
      · rw [hd, cond_true] at hq3; omega
      · rw [hd, cond_false] at hq3; omega
    · have h2 := of_decide_eq_false h2
      rw [List.drop_eq_nil_of_le (as := s.b) (i := k.toNat) (by omega)] at hq3
      simpa [dg] using hq3
  refine T.br (fun h2 => ?_) fun h2 => ?_
  · obtain ⟨hk, hd⟩ := hb.1 h2
    obtain ⟨y, hy⟩ : ∃ y, s.b[k.toNat]? = some y := ⟨_, List.getElem?_eq_getElem (by omega)⟩
    have hsn := take_snoc (b := s.b.drop f.toNat) (n := k.toNat - f.toNat) (y := y) (get_drop (by rw [show f.toNat + (k.toNat - f.toNat) = k.toNat by omega, hy]))
    have hk1 : (k + 1).toNat - f.toNat = k.toNat - f.toNat + 1 := by omega
    refine T.ck (by omega) (T.jp (fun u => k - f < 19 → u = 10 * v + (y - 48).toUInt64) (fun J h => T.br (fun _ => ?_) fun h3 => h _ fun h4 => by have := of_decide_eq_false h3; omega) fun u hu => T.ck (by omega) (hL _ ?_ (by simp only; omega)))
    · exact T.get (by omega) hk fun y' hy' => h _ fun _ => by rw [hy] at hy'; cases hy'; rfl
    · refine ⟨by simp only; omega, by simp only; omega, hd, fun h19 => ?_⟩
      simp only at h19 ⊢
      rw [hk1, hsn, uval_snoc, hu (by omega), hq4 (by omega)]
  have hn := hb.2 h2
  rw [hgoal k hn]
  refine T.ck (by omega) ?_
  have hdn : dg (s.b.drop f.toNat) = k.toNat - f.toNat := by omega
  have hyf : 1 ≤ k - f → ∀ y, s.b[f.toNat]? = some y → hd (s.b.drop f.toNat) = y := fun _ y hy => by rw [dropc hy]; rfl
  refine T.jp (fun b => b = (decide (dg (s.b.drop f.toNat) < 1) || decide (19 < dg (s.b.drop f.toNat)))) (fun J h => T.br (fun h3 => h _ ?_) fun h3 => h _ ?_) fun b1 hb1 => ?_
  · have := of_decide_eq_true h3; rw [decide_eq_true (by omega)]; rfl
  · have := of_decide_eq_false h3; rw [decide_eq_false (show ¬ dg (s.b.drop f.toNat) < 1 by omega), Bool.false_or, decide_eq_decide]; omega
  refine T.jp (fun b => b = (b1 || (decide (1 < dg (s.b.drop f.toNat)) && decide (hd (s.b.drop f.toNat) = 48)))) (fun J h => T.br (fun h3 => h _ (by rw [h3]; rfl)) fun h3 => ?_) fun b2 hb2 => ?_
  · refine T.jp (fun b => b = (decide (1 < dg (s.b.drop f.toNat)) && decide (hd (s.b.drop f.toNat) = 48))) (fun J3 h4 => T.br (fun h5 => ?_) fun h5 => h4 _ ?_) fun b hb => h _ (by rw [h3, hb]; rfl)
    · have h5 := of_decide_eq_true h5
      exact T.get (by omega) (by omega) fun y hy => h4 _ (by rw [decide_eq_true (show 1 < dg (s.b.drop f.toNat) by omega), hyf (by omega) y hy]; rfl)
    · have h5 := of_decide_eq_false h5
      rw [decide_eq_false (show ¬ 1 < dg (s.b.drop f.toNat) by omega)]; rfl
  refine T.jp (fun b => b = (b2 || (decide (y1 = 45) && decide (hd (s.b.drop f.toNat) = 48)))) (fun J h => T.br (fun h3 => h _ (by rw [h3]; rfl)) fun h3 => ?_) fun b3 hb3 => ?_
  · have hge : 1 ≤ k - f := by
      have e1 := (Bool.or_eq_false_iff.1 (hb2.symm.trans h3)).1
      have := of_decide_eq_false (Bool.or_eq_false_iff.1 (hb1.symm.trans e1)).1
      omega
    refine T.jp (fun b => b = (decide (y1 = 45) && decide (hd (s.b.drop f.toNat) = 48))) (fun J3 h4 => T.br (fun h5 => ?_) fun h5 => h4 _ (by rw [h5]; rfl)) fun b hb => h _ (by rw [h3, hb]; rfl)
    exact T.get (by omega) (by omega) fun y hy => h4 _ (by rw [h5, hyf hge y hy]; rfl)
  have hat : r04_at s k = some (hd ((s.b.drop f.toNat).drop (dg (s.b.drop f.toNat)))) := by
    rw [at_eq s k (by omega), List.drop_drop, hdn]
    congr 3; omega
  refine T.jp (fun b => b = (b3 || isLetter (hd ((s.b.drop f.toNat).drop (dg (s.b.drop f.toNat)))))) (fun J h => T.br (fun h3 => h _ (by rw [h3]; rfl)) fun h3 => T.eq hat (T.eq (letter_eq _) (h _ (by rw [h3]; rfl)))) fun b4 hb4 => ?_
  have hv : b4 = false → v = uval ((s.b.drop f.toNat).take (dg (s.b.drop f.toNat))) := fun h => by
    have e3 := (Bool.or_eq_false_iff.1 (hb4.symm.trans h)).1
    have e2 := (Bool.or_eq_false_iff.1 (hb3.symm.trans e3)).1
    have e1 := (Bool.or_eq_false_iff.1 (hb2.symm.trans e2)).1
    have := of_decide_eq_false (Bool.or_eq_false_iff.1 (hb1.symm.trans e1)).2
    rw [hdn]; exact hq4 (by omega)
  refine T.jp (fun b => b = (b4 || decide (9223372036854775808 < uval ((s.b.drop f.toNat).take (dg (s.b.drop f.toNat)))))) (fun J h => T.br (fun h3 => h _ (by rw [h3]; rfl)) fun h3 => h _ (by rw [h3, hv h3]; rfl)) fun b5 hb5 => ?_
  refine T.jp (fun b => b = (b5 || (!decide (y1 = 45) && decide (uval ((s.b.drop f.toNat).take (dg (s.b.drop f.toNat))) = 9223372036854775808)))) (fun J h => T.br (fun h3 => h _ (by rw [h3]; rfl)) fun h3 => ?_) fun b6 hb6 => ?_
  · have e4 := (Bool.or_eq_false_iff.1 (hb5.symm.trans h3)).1
    refine T.jp (fun b => b = (!decide (y1 = 45) && decide (uval ((s.b.drop f.toNat).take (dg (s.b.drop f.toNat))) = 9223372036854775808))) (fun J3 h4 => T.br (fun h5 => h4 _ (by rw [h5, hv e4]; rfl)) fun h5 => h4 _ (by rw [h5]; rfl)) fun b hb => h _ (by rw [h3, hb]; rfl)
  have hall : b6 = numBad (decide (y1 = 45)) (s.b.drop f.toNat) := by
    rw [hb6, hb5, hb4, hb3, hb2, hb1]; rfl
  rw [← hall]
  exact T.br (fun h3 => T.some (by rw [h3]; rfl)) fun h3 => T.some (by rw [h3]; rfl)

/-! ### Hexes -/
def isHex (c : UInt8) : Bool := isDigit c || (decide (65 ≤ c) && decide (c ≤ 70))
def hx : List UInt8 → Nat
  | [] => 0
  | c :: r => bif isHex c then hx r + 1 else 0
theorem hx_cons (c : UInt8) (r : List UInt8) : hx (c :: r) = bif isHex c then hx r + 1 else 0 := rfl
def hexBad (r : List UInt8) : Bool := !decide (hx r % 2 = 0) || !decide (hd (r.drop (hx r)) = 39) || !decide (hd (r.drop (hx r + 1)) = 72)
theorem hd_lt {b : List UInt8} {n : Nat} (h : hd (b.drop n) ≠ 0) : n < b.length := by
  rcases Nat.lt_or_ge n b.length with h2 | h2
  · exact h2
  · rw [List.drop_eq_nil_of_le h2] at h; exact absurd rfl h
theorem hex_eq (s : Str) (i : Int) (h0 : 0 ≤ i) (h1 : i < s.b.length) (hl : s.b.length ≤ 1000000) :
    r04_hex s i = some (bif hexBad (s.b.drop (i.toNat + 1)) then (-1, ⟨[]⟩) else (i + 1 + (hx (s.b.drop (i.toNat + 1)) : Int) + 2, ⟨(s.b.drop (i.toNat + 1)).take (hx (s.b.drop (i.toNat + 1)))⟩)) := by
  refine tx ?_
  unfold r04_hex
  have e0 : (i + 1).toNat = i.toNat + 1 := by omega
  refine T.ck (by omega) (T.lp (fun (k : Int) => i + 1 ≤ k ∧ k ≤ (s.b.length : Int) ∧ (hx (s.b.drop (i.toNat + 1)) : Int) = k - (i + 1) + hx (s.b.drop k.toNat)) (fun (k : Int) => ((s.b.length : Int) - k).toNat) ⟨Int.le_refl _, by omega, by rw [e0]; omega⟩ (by omega) fun L k ⟨k1, k2, k3⟩ hL => ?_)
  refine T.jp (fun b => (b = true → k < s.b.length ∧ (hx (s.b.drop (i.toNat + 1)) : Int) = k + 1 - (i + 1) + hx (s.b.drop (k + 1).toNat)) ∧ (b = false → (hx (s.b.drop (i.toNat + 1)) : Int) = k - (i + 1))) (fun J h => T.br (fun h2 => ?_) fun h2 => h _ ⟨(fun h => by cases h), fun _ => ?_⟩) fun b hb => ?_
  · have h2 := of_decide_eq_true h2
    refine T.get (by omega) h2 fun y hy => T.eq (digit_eq y) ?_
    have ek : (k + 1).toNat = k.toNat + 1 := by omega
    refine T.jp (fun q => q = isHex y) (fun J2 h3 => T.br (fun h4 => h3 _ (by unfold isHex; rw [h4]; rfl)) fun h4 => T.get (by omega) h2 fun y' hy' => ?_) fun q hq => h _ ?_
    · rw [hy] at hy'; cases hy'
      refine T.jp (fun q => q = (decide (65 ≤ y) && decide (y ≤ 70))) (fun J4 h5 => T.br (fun h6 => T.get (by omega) h2 fun y' hy' => h5 _ (by rw [hy] at hy'; cases hy'; rw [h6]; rfl)) fun h6 => h5 _ (by rw [h6]; rfl)) fun q hq => h3 _ (by unfold isHex; rw [h4, hq]; rfl)
    · subst hq
      rw [dropc hy, hx_cons] at k3
      rw [ek]
      refine ⟨fun hd => ⟨h2, ?_⟩, fun hd => ?_⟩
      · rw [hd, cond_true] at k3; omega
      · rw [hd, cond_false] at k3; omega
  · have h2 := of_decide_eq_false h2
    rw [List.drop_eq_nil_of_le (as := s.b) (i := k.toNat) (by omega)] at k3
    simpa [hx] using k3
  refine T.br (fun h2 => T.ck (by have := hb.1 h2; omega) (hL _ ⟨by have := hb.1 h2; omega, by have := hb.1 h2; omega, (hb.1 h2).2⟩ (by have := hb.1 h2; omega))) fun h2 => ?_
  have hn := hb.2 h2
  have hdk : (s.b.drop (i.toNat + 1)).drop (hx (s.b.drop (i.toNat + 1))) = s.b.drop k.toNat := by rw [List.drop_drop]; congr 1; omega
  have hdk1 : (s.b.drop (i.toNat + 1)).drop (hx (s.b.drop (i.toNat + 1)) + 1) = s.b.drop (k + 1).toNat := by rw [List.drop_drop]; congr 1; omega
  refine T.ck (by omega) (T.asr rfl ?_)
  have hmod : decide ((k - (i + 1)).tmod 2 = 0) = decide (hx (s.b.drop (i.toNat + 1)) % 2 = 0) := by
    rw [decide_eq_decide, Int.tmod_eq_emod_of_nonneg (by omega)]
    omega
  refine T.jp (fun b => b = (!decide (hx (s.b.drop (i.toNat + 1)) % 2 = 0) || !decide (hd (s.b.drop k.toNat) = 39))) (fun J h => T.br (fun h3 => h _ (by rw [← hmod, h3]; rfl)) fun h3 => T.eq (at_eq s k (by omega)) (h _ (by rw [← hmod, h3]; rfl))) fun b1 hb1 => ?_
  refine T.jp (fun b => b = hexBad (s.b.drop (i.toNat + 1))) (fun J h => T.br (fun h3 => h _ ?_) fun h3 => T.ck (by omega) (T.eq (at_eq s (k + 1) (by omega)) (h _ ?_))) fun b2 hb2 => ?_
  · unfold hexBad; rw [hdk, ← hb1, h3]; rfl
  · unfold hexBad; rw [hdk, hdk1, ← hb1, h3]; rfl
  rw [← hb2]
  refine T.br (fun h3 => T.some (by rw [h3]; rfl)) fun h3 => ?_
  have hlt : k + 1 < s.b.length := by
    rw [h3] at hb2
    unfold hexBad at hb2
    have := (Bool.or_eq_false_iff.1 hb2.symm).2
    have h72 : hd (s.b.drop (k + 1).toNat) = 72 := by rw [hdk1] at this; simpa using this
    have := hd_lt (b := s.b) (n := (k + 1).toNat) (by rw [h72]; decide)
    omega
  refine T.ck (by omega) (T.asd (by omega) (T.some ?_))
  rw [h3, cond_false, seg, e0]
  have e5 : k.toNat - (i.toNat + 1) = hx (s.b.drop (i.toNat + 1)) := by omega
  rw [e5, hn]
  have e6 : i + 1 + (k - (i + 1)) + 2 = k + 2 := by omega
  rw [e6]

/-! ### Strings -/
def qd : Bool → List UInt8 → List UInt8 → Option (List UInt8 × List UInt8)
  | _, [], _ => none
  | true, _ :: r, acc => qd false r (acc ++ [34])
  | false, c :: r, acc => bif decide (c = 34) then bif decide (hd r = 34) then qd true r acc else bif Lib.validD acc then some (acc, r) else none else qd false r (acc ++ [c])
theorem quoted_eq (s : Str) (i : Int) (h0 : 0 ≤ i) (h1 : i < s.b.length) (hl : s.b.length ≤ 1000000) :
    r04_quoted s i = some (match qd false (s.b.drop (i.toNat + 1)) [] with
      | none => (-1, ⟨[]⟩)
      | some (t, r) => ((s.b.length : Int) - (r.length : Int), ⟨t⟩)) := by
  refine tx ?_
  unfold r04_quoted
  have e0 : (i + 1).toNat = i.toNat + 1 := by omega
  refine T.ck (by omega) (T.lp (ι := Int × Str) (fun q => i + 1 ≤ q.1 ∧ q.1 ≤ s.b.length + 1 ∧ (q.2.b.length : Int) < q.1 ∧ qd false (s.b.drop (i.toNat + 1)) [] = qd false (s.b.drop q.1.toNat) q.2.b) (fun q => (s.b.length + 1 - q.1).toNat) ⟨Int.le_refl _, by dsimp only; omega, by dsimp only; simp only [List.length_nil]; omega, by dsimp only; rw [e0]⟩ (by dsimp only; omega) fun L q hq hL => ?_)
  obtain ⟨k, o⟩ := q
  obtain ⟨hq1, hq2, hq3, hq4⟩ := hq
  simp only at hq1 hq2 hq3 hq4 ⊢
  rw [hq4] at hL ⊢
  refine T.br (fun h2 => ?_) fun h2 => T.some ?_
  rotate_left
  · have h2 := of_decide_eq_false h2
    rw [List.drop_eq_nil_of_le (by omega)]; simp only [qd]
  have h2 := of_decide_eq_true h2
  have ek : (k + 1).toNat = k.toNat + 1 := by omega
  refine T.jp (fun (q : Int × Str) => k ≤ q.1 ∧ q.1 < (s.b.length : Int) ∧ (q.2.b.length : Int) < q.1 + 1 ∧ qd false (s.b.drop k.toNat) o.b = qd false (s.b.drop (q.1 + 1).toNat) q.2.b) (fun J h => ?_) fun q hq => ?_
  · refine T.get (by omega) h2 fun y hy => T.br (fun h3 => ?_) fun h3 => ?_
    · have h34 : decide (y = 34) = false := by simpa using h3
      have ey : (s.b.take (k + 1).toNat).drop k.toNat = [y] := by
        rw [seg, ek, dropc hy, show k.toNat + 1 - k.toNat = 1 by omega]; rfl
      refine T.ck (by omega) (T.asd (by omega) (T.abl ?_ (h _ ⟨Int.le_refl _, h2, ?_, ?_⟩)))
      · simp only [List.length_drop, List.length_take]; omega
      · simp only [List.length_append, List.length_drop, List.length_take]; omega
      · dsimp only
        rw [ey, ek]
        conv => lhs; rw [dropc hy]
        simp only [qd, h34, cond_false]
    · have h34 : decide (y = 34) = true := by simpa using h3
      refine T.ck (by omega) (T.eq (at_eq s (k + 1) (by omega)) (T.br (fun h4 => ?_) fun h4 => ?_))
      · have hn : decide (hd (s.b.drop (k.toNat + 1)) = 34) = false := by rw [ek] at h4; simpa using h4
        refine T.eq rfl (T.br (fun h5 => T.some ?_) fun h5 => T.ck (by omega) (T.some ?_))
        · have h5 : Lib.validD o.b = false := by simpa using h5
          conv => rhs; rw [dropc hy]
          simp only [qd, h34, cond_true, hn, cond_false, h5]
        · have h5 : Lib.validD o.b = true := by simpa using h5
          conv => rhs; rw [dropc hy]
          simp only [qd, h34, cond_true, hn, cond_false, h5, List.length_drop]
          congr 1; omega
      · have hn : hd (s.b.drop (k.toNat + 1)) = 34 := by rw [ek] at h4; simpa using h4
        have hlt := hd_lt (b := s.b) (n := k.toNat + 1) (by rw [hn]; decide)
        obtain ⟨c, ec⟩ := skip1 hlt
        refine T.abl ?_ (T.ck (by omega) (h _ ⟨by dsimp only; omega, by dsimp only; omega, ?_, ?_⟩))
        · simp only [List.length_cons, List.length_nil]; omega
        · simp only [List.length_append, List.length_cons, List.length_nil]; omega
        · dsimp only
          rw [show (k + 1 + 1).toNat = k.toNat + 1 + 1 by omega]
          conv => lhs; rw [dropc hy]
          simp only [qd, h34, cond_true, decide_eq_true hn]
          rw [ec]; simp only [qd]
  · exact T.ck (by omega) (hL _ ⟨by dsimp only; omega, by dsimp only; omega, hq.2.2.1, hq.2.2.2⟩ (by dsimp only; omega))
end Go.Proofs.YtnnijoepfgnlfaaGreatDoor


namespace Go.Proofs.YtnnijoepfgnlfaaGreatDoor
open Go.Sy
set_option linter.unusedVariables false

/-! ### Signs -/
def isPre : List UInt8 → List UInt8 → Bool
  | [], _ => true
  | _ :: _, [] => false
  | p :: ps, c :: r => bif decide (p = c) then isPre ps r else false
def sgF : List (List UInt8) → List UInt8 → Nat
  | [], _ => 0
  | p :: ps, b => bif isPre p b then p.length else sgF ps b
def sgs : List (List UInt8) := [[58, 58, 61], [46, 46, 46], [46, 46], [91, 91], [93, 93], [123], [125], [91], [93], [40], [41], [44], [58]]
def sg (b : List UInt8) : Nat := sgF sgs b
theorem isPre_iff : ∀ (p b : List UInt8), isPre p b = true ↔ p.length ≤ b.length ∧ b.take p.length = p
  | [], b => by simp [isPre]
  | _ :: _, [] => by simp [isPre]
  | p :: ps, c :: r => by
    have ih := isPre_iff ps r
    unfold isPre
    by_cases h : p = c
    · subst h; simp [ih]
    · simp only [decide_eq_false h, cond_false, List.length_cons, List.take_succ_cons, List.cons.injEq]
      exact ⟨(fun h => by cases h), fun h2 => absurd h2.2.1.symm h⟩
theorem sgs_get {k : Nat} {y : Str} (h : ([(Str.mk [58, 58, 61]), (Str.mk [46, 46, 46]), (Str.mk [46, 46]), (Str.mk [91, 91]), (Str.mk [93, 93]), (Str.mk [123]), (Str.mk [125]), (Str.mk [91]), (Str.mk [93]), (Str.mk [40]), (Str.mk [41]), (Str.mk [44]), (Str.mk [58])] : List Str)[k]? = some y) : sgs.drop k = y.b :: sgs.drop (k + 1) := by
  have e : ([(Str.mk [58, 58, 61]), (Str.mk [46, 46, 46]), (Str.mk [46, 46]), (Str.mk [91, 91]), (Str.mk [93, 93]), (Str.mk [123]), (Str.mk [125]), (Str.mk [91]), (Str.mk [93]), (Str.mk [40]), (Str.mk [41]), (Str.mk [44]), (Str.mk [58])] : List Str) = sgs.map Str.mk := rfl
  rw [e, List.getElem?_map] at h
  obtain ⟨z, h1, h2⟩ := Option.map_eq_some_iff.1 h
  subst h2
  obtain ⟨h3, h4⟩ := List.getElem?_eq_some_iff.1 h1
  rw [List.drop_eq_getElem_cons h3, h4]
theorem sign_eq (s : Str) (i : Int) (h0 : 0 ≤ i) (h1 : i < s.b.length) (hl : s.b.length ≤ 1000000) : r04_sign s i = some ((sg (s.b.drop i.toNat) : Nat) : Int) := by
  refine tx ?_
  unfold r04_sign
  refine T.asd (by omega) (T.lp (fun (k : Int) => 0 ≤ k ∧ k ≤ 13 ∧ sgF (sgs.drop k.toNat) (s.b.drop i.toNat) = sg (s.b.drop i.toNat)) (fun (k : Int) => (13 - k).toNat) ⟨Int.le_refl _, by omega, rfl⟩ (by omega) fun L k ⟨k1, k2, k3⟩ hL => ?_)
  have er : (s.b.take ((s.b.length : Int)).toNat).drop i.toNat = s.b.drop i.toNat := by rw [List.take_of_length_le (by omega)]
  refine T.br (fun h2 => ?_) fun h2 => T.some ?_
  rotate_left
  · have h2 : ¬ k < 13 := of_decide_eq_false h2
    have : k = 13 := by omega
    subst this
    rw [← k3]; rfl
  have h2 := of_decide_eq_true h2
  refine T.get k1 h2 fun y hy => ?_
  have hs := sgs_get hy
  rw [hs] at k3
  unfold sgF at k3
  rw [er]
  refine T.jp (fun b => b = isPre y.b (s.b.drop i.toNat)) (fun J h => T.br (fun h3 => ?_) fun h3 => h _ ?_) fun b hb => ?_
  · have h3 := of_decide_eq_true h3
    refine T.asd ⟨Int.le_refl _, by omega, h3⟩ (T.get k1 h2 fun y2 hy2 => h _ ?_)
    rw [hy] at hy2; cases hy2
    have h4 : y.b.length ≤ (s.b.drop i.toNat).length := by simp only [List.length_drop] at h3 ⊢; omega
    rw [Bool.eq_iff_iff, decide_eq_true_eq, isPre_iff]
    constructor
    · intro h5
      refine ⟨h4, ?_⟩
      have := congrArg Str.b h5
      simpa using this
    · intro h5
      obtain ⟨yb⟩ := y
      simp only [Str.mk.injEq]
      simpa using h5.2
  · have h3 := of_decide_eq_false h3
    symm
    rw [Bool.eq_false_iff]
    intro h5
    have := (isPre_iff _ _).1 h5
    simp only [List.length_drop] at h3 this
    omega
  · rw [hb]
    refine T.br (fun h3 => T.some ?_) fun h3 => T.ck (by have h2 : k < 13 := h2; omega) (hL _ ⟨by omega, by have h2 : k < 13 := h2; omega, ?_⟩ (by have h2 : k < 13 := h2; omega))
    · rw [h3, cond_true] at k3; rw [← k3]
    · rw [h3, cond_false] at k3
      have e : (k + 1).toNat = k.toNat + 1 := by omega
      rw [e, k3]

/-! ### Words -/
def wordsL : List Str := [(Str.mk [68, 69, 70, 73, 78, 73, 84, 73, 79, 78, 83]), (Str.mk [69, 88, 80, 76, 73, 67, 73, 84]), (Str.mk [73, 77, 80, 76, 73, 67, 73, 84]), (Str.mk [65, 85, 84, 79, 77, 65, 84, 73, 67]), (Str.mk [84, 65, 71, 83]), (Str.mk [66, 69, 71, 73, 78]), (Str.mk [69, 78, 68]), (Str.mk [66, 79, 79, 76, 69, 65, 78]), (Str.mk [73, 78, 84, 69, 71, 69, 82]), (Str.mk [69, 78, 85, 77, 69, 82, 65, 84, 69, 68]), (Str.mk [78, 85, 76, 76]), (Str.mk [79, 67, 84, 69, 84]), (Str.mk [83, 84, 82, 73, 78, 71]), (Str.mk [85, 84, 70, 56, 83, 116, 114, 105, 110, 103]), (Str.mk [83, 69, 81, 85, 69, 78, 67, 69]), (Str.mk [83, 69, 84]), (Str.mk [67, 72, 79, 73, 67, 69]), (Str.mk [79, 70]), (Str.mk [79, 80, 84, 73, 79, 78, 65, 76]), (Str.mk [68, 69, 70, 65, 85, 76, 84]), (Str.mk [83, 73, 90, 69]), (Str.mk [77, 73, 78]), (Str.mk [77, 65, 88]), (Str.mk [84, 82, 85, 69]), (Str.mk [70, 65, 76, 83, 69])]
def sameB : List UInt8 → List UInt8 → Bool
  | [], [] => true
  | a :: r, b :: t => bif decide (a = b) then sameB r t else false
  | _, _ => false
theorem sameB_iff : ∀ a b : List UInt8, sameB a b = true ↔ a = b
  | [], [] => by simp [sameB]
  | [], _ :: _ => by simp [sameB]
  | _ :: _, [] => by simp [sameB]
  | a :: r, b :: t => by
    have ih := sameB_iff r t
    unfold sameB
    by_cases h : a = b
    · subst h; simp [ih]
    · simp [h]
def isWord (t : List UInt8) : Bool := wordsL.any fun w => sameB w.b t
theorem word_eq (s : Str) : r04_Word s = some (isWord s.b) := by
  refine tx ?_
  unfold r04_Word
  refine T.eq (y := wordsL) rfl (T.cal (in_string_tot wordsL s (by decide)) fun y _ hy => T.some ?_)
  rw [hy, Bool.eq_iff_iff, decide_eq_true_eq]
  unfold isWord
  rw [List.any_eq_true]
  constructor
  · intro h; exact ⟨s, h, (sameB_iff _ _).2 rfl⟩
  · rintro ⟨w, h1, h2⟩
    have := (sameB_iff _ _).1 h2
    obtain ⟨wb⟩ := w; obtain ⟨sb⟩ := s
    simp only at this; subst this; exact h1

/-! ### One sign, all signs -/
/-- The kind and the text of what comes first, and what is left behind it. -/
def oneS (b : List UInt8) : Option (Int × List UInt8 × List UInt8) :=
  let c := hd b
  bif isLetter c then bif nmBad b then none else some (bif isWord (b.take (nm b)) then 5 else bif decide (c ≤ 90) then 1 else 2, b.take (nm b), b.drop (nm b))
  else bif isDigit c || (decide (c = 45) && isDigit (hd (b.drop 1))) then match numLen b with
    | none => none
    | some n => some (3, b.take n, b.drop n)
  else bif decide (c = 39) then bif hexBad (b.drop 1) then none else some (4, (b.drop 1).take (hx (b.drop 1)), (b.drop 1).drop (hx (b.drop 1) + 2))
  else bif decide (c = 34) then match qd false (b.drop 1) [] with
    | none => none
    | some (t, r) => some (7, t, r)
  else bif decide (0 < sg b) then some (6, b.take (sg b), b.drop (sg b)) else none
theorem qd_len : ∀ (b : List UInt8) (f : Bool) (acc t r : List UInt8), qd f b acc = some (t, r) → r.length < b.length
  | [], f, acc, t, r, h => by cases f <;> simp [qd] at h
  | c :: b, true, acc, t, r, h => by
    simp only [qd] at h
    have := qd_len b _ _ _ _ h
    simp; omega
  | c :: b, false, acc, t, r, h => by
    simp only [qd] at h
    by_cases h1 : c = 34
    · simp only [decide_eq_true h1, cond_true] at h
      by_cases h2 : hd b = 34
      · simp only [decide_eq_true h2, cond_true] at h
        have := qd_len b _ _ _ _ h
        simp; omega
      · simp only [decide_eq_false h2, cond_false] at h
        cases hv : Lib.validD acc with
        | true => rw [hv] at h; simp at h; rw [← h.2]; simp
        | false => rw [hv] at h; cases h
    · simp only [decide_eq_false h1, cond_false] at h
      have := qd_len b _ _ _ _ h
      simp; omega
theorem numLen_bd {b : List UInt8} {n : Nat} (h : numLen b = some n) : 0 < n ∧ n ≤ b.length := by
  unfold numLen at h
  by_cases h1 : hd b = 45
  · simp only [decide_eq_true h1, cond_true] at h
    cases hb : numBad true (b.drop 1) with
    | true => rw [hb] at h; cases h
    | false =>
      rw [hb] at h; simp only [cond_false, Option.some.injEq] at h
      have := dg_le (b.drop 1)
      rw [List.length_drop] at this
      have : b ≠ [] := fun e => by rw [e] at h1; cases h1
      have := List.length_pos_iff.2 this
      omega
  · simp only [decide_eq_false h1, cond_false] at h
    cases hb : numBad false b with
    | true => rw [hb] at h; cases h
    | false =>
      rw [hb] at h; simp at h
      have := dg_le b
      have : decide (dg b < 1) = false := by
        unfold numBad at hb
        simp only [Bool.or_eq_false_iff] at hb
        exact hb.1.1.1.1.1.1
      have := of_decide_eq_false this
      omega
theorem nm_pos {b : List UInt8} (h : isLetter (hd b) = true) : 0 < nm b := by
  cases b with
  | nil => simp [hd, isLetter] at h
  | cons c r =>
    rw [nm_cons]
    simp only [hd] at h
    unfold inName
    rw [h]; simp
theorem sg_le : ∀ (l : List (List UInt8)) (b : List UInt8), sgF l b ≤ b.length
  | [], b => Nat.zero_le _
  | p :: ps, b => by
    unfold sgF
    cases h : isPre p b with
    | true => exact ((isPre_iff _ _).1 h).1
    | false => exact sg_le ps b
theorem oneS_len {b t r : List UInt8} {k : Int} (h : oneS b = some (k, t, r)) : r.length < b.length := by
  unfold oneS at h
  simp only at h
  cases h1 : isLetter (hd b) with
  | true =>
    rw [h1, cond_true] at h
    cases h2 : nmBad b with
    | true => rw [h2] at h; cases h
    | false =>
      rw [h2] at h
      simp only [cond_false, Option.some.injEq, Prod.mk.injEq] at h
      rw [← h.2.2, List.length_drop]
      have := nm_pos h1
      have := nm_le b
      omega
  | false =>
    rw [h1, cond_false] at h
    cases h2 : isDigit (hd b) || (decide (hd b = 45) && isDigit (hd (b.drop 1))) with
    | true =>
      rw [h2, cond_true] at h
      cases h3 : numLen b with
      | none => rw [h3] at h; cases h
      | some n =>
        rw [h3] at h
        simp only [Option.some.injEq, Prod.mk.injEq] at h
        have := numLen_bd h3
        rw [← h.2.2, List.length_drop]; omega
    | false =>
      rw [h2, cond_false] at h
      by_cases h3 : hd b = 39
      · rw [decide_eq_true h3, cond_true] at h
        cases h4 : hexBad (b.drop 1) with
        | true => rw [h4] at h; cases h
        | false =>
          rw [h4] at h
          simp only [cond_false, Option.some.injEq, Prod.mk.injEq] at h
          have : b ≠ [] := fun e => by rw [e] at h3; cases h3
          have := List.length_pos_iff.2 this
          rw [← h.2.2, List.length_drop, List.length_drop]; omega
      · rw [decide_eq_false h3, cond_false] at h
        by_cases h4 : hd b = 34
        · rw [decide_eq_true h4, cond_true] at h
          cases h5 : qd false (b.drop 1) [] with
          | none => rw [h5] at h; cases h
          | some q =>
            rw [h5] at h
            obtain ⟨t', r'⟩ := q
            simp only [Option.some.injEq, Prod.mk.injEq] at h
            have := qd_len _ _ _ _ _ h5
            rw [List.length_drop] at this
            rw [← h.2.2]; omega
        · rw [decide_eq_false h4, cond_false] at h
          by_cases h5 : 0 < sg b
          · rw [decide_eq_true h5, cond_true] at h
            simp only [Option.some.injEq, Prod.mk.injEq] at h
            have := sg_le sgs b
            have e : sgF sgs b = sg b := rfl
            rw [← h.2.2, List.length_drop]; omega
          · rw [decide_eq_false h5] at h; cases h
theorem one_eq (s : Str) (i : Int) (h0 : 0 ≤ i) (h1 : i < s.b.length) (hl : s.b.length ≤ 1000000) :
    T (fun (q : GTok × Int) => match oneS (s.b.drop i.toNat) with
      | none => q.2 < 0
      | some (k, t, r) => q = (⟨k, ⟨t⟩, i⟩, (s.b.length : Int) - (r.length : Int))) (r04_one s i) := by
  unfold r04_one
  refine T.get h0 h1 fun y hy => ?_
  have ed := dropc hy
  have hy0 : hd (s.b.drop i.toNat) = y := by rw [ed]; rfl
  have ed1 : (s.b.drop i.toNat).drop 1 = s.b.drop (i.toNat + 1) := by rw [List.drop_drop]
  have elen : (s.b.drop i.toNat).length = s.b.length - i.toNat := List.length_drop
  have etake : ∀ (n : Nat), (s.b.take (i + (n : Int)).toNat).drop i.toNat = (s.b.drop i.toNat).take n := fun n => by
    rw [seg]; congr 1; omega
  have erest : ∀ (n : Nat), n ≤ (s.b.drop i.toNat).length → i + (n : Int) = (s.b.length : Int) - (((s.b.drop i.toNat).drop n).length : Int) := fun n hn => by
    rw [List.length_drop, elen]; rw [elen] at hn; omega
  refine T.jp (ι := Int × GTok) (fun (q : Int × GTok) => match oneS (s.b.drop i.toNat) with
      | none => q.1 < 0
      | some (k, t, r) => (q.2, q.1) = (⟨k, ⟨t⟩, i⟩, (s.b.length : Int) - (r.length : Int))) (fun J h => ?_) fun q hq => T.some hq
  unfold oneS at h ⊢
  simp only [hy0] at h ⊢
  refine T.eq (letter_eq y) (T.br (fun hle => ?_) fun hle => T.eq (digit_eq y) ?_)
  · rw [hle, cond_true] at h ⊢
    have hcl : isLetter (hd (s.b.drop i.toNat)) = true := by rw [hy0]; exact hle
    refine T.eq (name_eq s i h0 h1 hl hcl) ?_
    cases hb : nmBad (s.b.drop i.toNat) with
    | true =>
      rw [hb, cond_true] at h
      simp only [cond_true] at h ⊢
      exact T.br (fun _ => T.some (by dsimp only; omega)) fun hn => by have := of_decide_eq_false hn; omega
    | false =>
      rw [hb, cond_false] at h
      simp only [cond_false] at h ⊢
      have hnl := nm_le (s.b.drop i.toNat)
      rw [elen] at hnl
      refine T.br (fun hn => by have := of_decide_eq_true hn; omega) fun _ => T.asd (by omega) ?_
      rw [etake]
      refine T.jp (ι := GTok) (fun t => t = ⟨bif decide (y ≤ 90) then 1 else 2, ⟨(s.b.drop i.toNat).take (nm (s.b.drop i.toNat))⟩, i⟩) (fun J2 h2 => T.br (fun h3 => h2 _ (by rw [h3]; rfl)) fun h3 => h2 _ (by rw [h3]; rfl)) fun t ht => ?_
      subst ht
      refine T.eq (word_eq _) (T.br (fun h3 => h _ ?_) fun h3 => h _ ?_)
      · dsimp only at h3 ⊢; rw [h3, ← erest _ (nm_le _)]; rfl
      · dsimp only at h3 ⊢; rw [h3, ← erest _ (nm_le _)]; rfl
  · rw [hle, cond_false] at h ⊢
    refine T.jp (fun b => b = (isDigit y || (decide (y = 45) && isDigit (hd ((s.b.drop i.toNat).drop 1))))) (fun J2 h2 => T.br (fun h3 => h2 _ (by rw [h3]; rfl)) fun h3 => ?_) fun b hb => ?_
    · refine T.jp (fun b => b = (decide (y = 45) && isDigit (hd ((s.b.drop i.toNat).drop 1)))) (fun J3 h4 => T.br (fun h5 => T.ck (by omega) (T.eq (at_eq s (i + 1) (by omega)) (T.eq (digit_eq _) (h4 _ ?_)))) fun h5 => h4 _ (by rw [h5]; rfl)) fun b hb => h2 _ (by rw [h3, hb]; rfl)
      rw [h5, ed1, show (i + 1).toNat = i.toNat + 1 by omega]; rfl
    rw [← hb] at h ⊢
    refine T.br (fun h3 => T.eq (number_eq s i h0 h1 hl) ?_) fun h3 => ?_
    · rw [h3, cond_true] at h ⊢
      cases hn : numLen (s.b.drop i.toNat) with
      | none =>
        simp only [hn] at h ⊢
        exact T.br (fun _ => T.some (by dsimp only; omega)) fun hn => by have := of_decide_eq_false hn; omega
      | some n =>
        simp only [hn] at h ⊢
        have hbd := numLen_bd hn
        have hbd2 := hbd.2
        rw [elen] at hbd2
        refine T.br (fun hn => by have := of_decide_eq_true hn; omega) fun _ => T.asd (by omega) (h _ ?_)
        rw [etake, ← erest n hbd.2]
    · rw [h3, cond_false] at h ⊢
      refine T.br (fun h4 => T.eq (hex_eq s i h0 h1 hl) (h _ ?_)) fun h4 => ?_
      · rw [h4, cond_true, ed1]
        cases hb : hexBad (s.b.drop (i.toNat + 1)) with
        | true => simp only [cond_true]; omega
        | false =>
          simp only [cond_false]
          have h5 : hx (s.b.drop (i.toNat + 1)) + 1 < (s.b.drop (i.toNat + 1)).length := by
            unfold hexBad at hb
            have := (Bool.or_eq_false_iff.1 hb).2
            have h72 : hd ((s.b.drop (i.toNat + 1)).drop (hx (s.b.drop (i.toNat + 1)) + 1)) = 72 := by simpa using this
            exact hd_lt (by rw [h72]; decide)
          rw [List.length_drop] at h5
          rw [List.length_drop, List.length_drop]
          have e : i + 1 + (hx (s.b.drop (i.toNat + 1)) : Int) + 2 = (s.b.length : Int) - ((s.b.length - (i.toNat + 1) - (hx (s.b.drop (i.toNat + 1)) + 2) : Nat) : Int) := by omega
          rw [e]
      · rw [h4, cond_false] at h ⊢
        refine T.br (fun h5 => T.eq (quoted_eq s i h0 h1 hl) (h _ ?_)) fun h5 => ?_
        · rw [h5, cond_true, ed1]
          cases hq : qd false (s.b.drop (i.toNat + 1)) [] with
          | none => simp only; omega
          | some q => rfl
        · rw [h5, cond_false] at h ⊢
          refine T.eq (sign_eq s i h0 h1 hl) (T.br (fun h6 => ?_) fun h6 => h _ ?_)
          · have h6 := of_decide_eq_true h6
            have hsl := sg_le sgs (s.b.drop i.toNat)
            have esg : sgF sgs (s.b.drop i.toNat) = sg (s.b.drop i.toNat) := rfl
            have hpos : 0 < sg (s.b.drop i.toNat) := by omega
            have hsl2 := hsl
            rw [elen] at hsl2
            refine T.ck (by omega) (T.asd (by omega) (T.ck (by omega) (h _ ?_)))
            rw [decide_eq_true hpos, cond_true]
            dsimp only
            rw [etake, ← erest (sg (s.b.drop i.toNat)) hsl]
          · have h6 := of_decide_eq_false h6
            rw [decide_eq_false (show ¬ 0 < sg (s.b.drop i.toNat) by omega)]
            simp only [cond_false]; omega

def toksF (n : Nat) : Nat → List UInt8 → List GTok → List GTok × Int × Int
  | 0, _, _ => ([], 0, 0)
  | f + 1, b, acc => match wh .out b with
    | [] => (acc ++ [⟨0, ⟨[]⟩, (n : Int)⟩], 0, 0)
    | c :: r => match oneS (c :: r) with
      | none => ([], (n : Int) - ((c :: r).length : Int), 6)
      | some (k, t, r') => toksF n f r' (acc ++ [⟨k, ⟨t⟩, (n : Int) - ((c :: r).length : Int)⟩])
theorem toksF_succ (n f : Nat) (b : List UInt8) (acc : List GTok) : toksF n (f + 1) b acc = match wh .out b with
    | [] => (acc ++ [⟨0, ⟨[]⟩, (n : Int)⟩], 0, 0)
    | c :: r => match oneS (c :: r) with
      | none => ([], (n : Int) - ((c :: r).length : Int), 6)
      | some (k, t, r') => toksF n f r' (acc ++ [⟨k, ⟨t⟩, (n : Int) - ((c :: r).length : Int)⟩]) := rfl
def toks (b : List UInt8) : List GTok × Int × Int := bif decide (8000 < b.length) then ([], 0, 5) else toksF b.length (b.length + 1) b []
theorem wh_len : ∀ (b : List UInt8) (st : Wst), (wh st b).length ≤ b.length
  | [], st => by cases st <;> simp [wh]
  | c :: r, .out => by
    have h1 := wh_len r .out
    have h2 := wh_len r .start
    simp only [wh]
    cases isWh c <;> simp only [cond_true, cond_false]
    · cases decide (c = 45) && decide (hd r = 45) <;> simp only [cond_true, cond_false, List.length_cons] <;> omega
    · simp only [List.length_cons]; omega
  | c :: r, .start => by have := wh_len r .ins; simp only [wh, List.length_cons]; omega
  | c :: r, .ins => by
    have h1 := wh_len r .out
    have h2 := wh_len r .fin
    have h3 := wh_len r .ins
    simp only [wh, List.length_cons]
    cases decide (c = 10) <;> simp only [cond_true, cond_false]
    · cases decide (c = 45) && decide (hd r = 45) <;> simp only [cond_true, cond_false] <;> omega
    · omega
  | c :: r, .fin => by have := wh_len r .out; simp only [wh, List.length_cons]; omega
theorem wh_suf : ∀ (b : List UInt8) (st : Wst), ∃ n, wh st b = b.drop n
  | [], st => ⟨0, by cases st <;> simp [wh]⟩
  | c :: r, .out => by
    obtain ⟨n1, h1⟩ := wh_suf r .out
    obtain ⟨n2, h2⟩ := wh_suf r .start
    simp only [wh]
    cases isWh c <;> simp only [cond_true, cond_false]
    · cases decide (c = 45) && decide (hd r = 45) <;> simp only [cond_true, cond_false]
      · exact ⟨0, rfl⟩
      · exact ⟨n2 + 1, h2⟩
    · exact ⟨n1 + 1, h1⟩
  | c :: r, .start => by obtain ⟨n, h⟩ := wh_suf r .ins; exact ⟨n + 1, h⟩
  | c :: r, .ins => by
    obtain ⟨n1, h1⟩ := wh_suf r .out
    obtain ⟨n2, h2⟩ := wh_suf r .fin
    obtain ⟨n3, h3⟩ := wh_suf r .ins
    simp only [wh]
    cases decide (c = 10) <;> simp only [cond_true, cond_false]
    · cases decide (c = 45) && decide (hd r = 45) <;> simp only [cond_true, cond_false]
      · exact ⟨n3 + 1, h3⟩
      · exact ⟨n2 + 1, h2⟩
    · exact ⟨n1 + 1, h1⟩
  | c :: r, .fin => by obtain ⟨n, h⟩ := wh_suf r .out; exact ⟨n + 1, h⟩
theorem qd_suf : ∀ (b : List UInt8) (f : Bool) (acc t r : List UInt8), qd f b acc = some (t, r) → ∃ n, r = b.drop n
  | [], f, acc, t, r, h => by cases f <;> simp [qd] at h
  | c :: b, true, acc, t, r, h => by
    simp only [qd] at h
    obtain ⟨n, e⟩ := qd_suf b _ _ _ _ h
    exact ⟨n + 1, e⟩
  | c :: b, false, acc, t, r, h => by
    simp only [qd] at h
    by_cases h1 : c = 34
    · simp only [decide_eq_true h1, cond_true] at h
      by_cases h2 : hd b = 34
      · simp only [decide_eq_true h2, cond_true] at h
        obtain ⟨n, e⟩ := qd_suf b _ _ _ _ h
        exact ⟨n + 1, e⟩
      · simp only [decide_eq_false h2, cond_false] at h
        cases hv : Lib.validD acc with
        | true => rw [hv] at h; simp at h; exact ⟨1, h.2.symm⟩
        | false => rw [hv] at h; cases h
    · simp only [decide_eq_false h1, cond_false] at h
      obtain ⟨n, e⟩ := qd_suf b _ _ _ _ h
      exact ⟨n + 1, e⟩
theorem oneS_suf {b t r : List UInt8} {k : Int} (h : oneS b = some (k, t, r)) : ∃ n, r = b.drop n := by
  unfold oneS at h
  simp only at h
  cases h1 : isLetter (hd b) with
  | true =>
    rw [h1, cond_true] at h
    cases h2 : nmBad b with
    | true => rw [h2] at h; cases h
    | false =>
      rw [h2] at h
      simp only [cond_false, Option.some.injEq, Prod.mk.injEq] at h
      exact ⟨_, h.2.2.symm⟩
  | false =>
    rw [h1, cond_false] at h
    cases h2 : isDigit (hd b) || (decide (hd b = 45) && isDigit (hd (b.drop 1))) with
    | true =>
      rw [h2, cond_true] at h
      cases h3 : numLen b with
      | none => rw [h3] at h; cases h
      | some n =>
        rw [h3] at h
        simp only [Option.some.injEq, Prod.mk.injEq] at h
        exact ⟨_, h.2.2.symm⟩
    | false =>
      rw [h2, cond_false] at h
      by_cases h3 : hd b = 39
      · rw [decide_eq_true h3, cond_true] at h
        cases h4 : hexBad (b.drop 1) with
        | true => rw [h4] at h; cases h
        | false =>
          rw [h4] at h
          simp only [cond_false, Option.some.injEq, Prod.mk.injEq, List.drop_drop] at h
          exact ⟨_, h.2.2.symm⟩
      · rw [decide_eq_false h3, cond_false] at h
        by_cases h4 : hd b = 34
        · rw [decide_eq_true h4, cond_true] at h
          cases h5 : qd false (b.drop 1) [] with
          | none => rw [h5] at h; cases h
          | some q =>
            rw [h5] at h
            obtain ⟨t', r'⟩ := q
            simp only [Option.some.injEq, Prod.mk.injEq] at h
            obtain ⟨n, e⟩ := qd_suf _ _ _ _ _ h5
            rw [List.drop_drop] at e
            exact ⟨_, h.2.2.symm.trans e⟩
        · rw [decide_eq_false h4, cond_false] at h
          by_cases h5 : 0 < sg b
          · rw [decide_eq_true h5, cond_true] at h
            simp only [Option.some.injEq, Prod.mk.injEq] at h
            exact ⟨_, h.2.2.symm⟩
          · rw [decide_eq_false h5] at h; cases h
theorem suf_drop {b r : List UInt8} {n : Nat} (h : r = b.drop n) : b.drop (b.length - r.length) = r := by
  subst h
  rw [List.length_drop]
  rcases Nat.lt_or_ge b.length n with h2 | h2
  · rw [List.drop_eq_nil_of_le (show b.length ≤ n by omega), List.drop_eq_nil_of_le (by omega)]
  · congr 1; omega

theorem tokens_eq (s : Str) : r04_Tokens s = some (toks s.b) := by
  refine tx ?_
  unfold r04_Tokens toks
  refine T.br (fun h => T.some ?_) fun h => ?_
  · have h := of_decide_eq_true h
    rw [decide_eq_true (show 8000 < s.b.length by omega)]; rfl
  have hl := of_decide_eq_false h
  rw [decide_eq_false (show ¬ 8000 < s.b.length by omega), cond_false]
  refine T.lp (ι := List GTok × Int) (fun (q : List GTok × Int) => 0 ≤ q.2 ∧ q.2 ≤ (s.b.length : Int) ∧ (q.1.length : Int) ≤ q.2 ∧ ∃ f, (s.b.drop q.2.toNat).length < f ∧ toksF s.b.length (s.b.length + 1) s.b [] = toksF s.b.length f (s.b.drop q.2.toNat) q.1) (fun (q : List GTok × Int) => ((s.b.length : Int) - q.2).toNat) ⟨Int.le_refl _, by dsimp only; omega, by simp, s.b.length + 1, by simp, rfl⟩ (by dsimp only; omega) fun L q hq hL => ?_
  obtain ⟨l, k⟩ := q
  obtain ⟨h1, h2, h3, f, h4, h5⟩ := hq
  simp only at h1 h2 h3 h4 h5 ⊢
  rw [h5] at hL ⊢
  cases f with
  | zero => omega
  | succ f =>
    have hwl := wh_len (s.b.drop k.toNat) .out
    rw [List.length_drop] at hwl h4
    obtain ⟨nw, hw⟩ := wh_suf (s.b.drop k.toNat) .out
    rw [List.drop_drop] at hw
    have hsw := suf_drop hw
    refine T.eq (white_eq s k h1 h2 (by omega)) ?_
    rw [toksF_succ] at hL ⊢
    cases hwh : wh .out (s.b.drop k.toNat) with
    | nil =>
      simp only [hwh] at hL ⊢
      refine T.br (fun _ => T.abl (by simp only [List.length_cons, List.length_nil]; omega) (T.some rfl)) fun h6 => ?_
      have := of_decide_eq_false h6
      simp at this
    | cons c r =>
      simp only [hwh] at hL ⊢ 
      rw [hwh] at hwl hsw
      have hcl : 0 < (c :: r).length := by simp
      refine T.br (fun h6 => by have := of_decide_eq_true h6; omega) fun _ => ?_
      have hi : ((s.b.length : Int) - ((c :: r).length : Int)).toNat = s.b.length - (c :: r).length := by omega
      refine T.cal (one_eq s ((s.b.length : Int) - ((c :: r).length : Int)) (by omega) (by omega) (by omega)) fun q _ hq => ?_
      rw [hi, hsw] at hq
      cases ho : oneS (c :: r) with
      | none =>
        rw [ho] at hq
        simp only [ho] at hL ⊢
        simp only at hq
        exact T.br (fun _ => T.some rfl) fun h7 => by have := of_decide_eq_false h7; omega
      | some p =>
        obtain ⟨kd, t, r'⟩ := p
        rw [ho] at hq
        simp only [ho] at hL ⊢
        simp only at hq
        subst hq
        have hol := oneS_len ho
        obtain ⟨no, hso⟩ := oneS_suf ho
        have hso2 : r' = s.b.drop (s.b.length - (c :: r).length + no) := by rw [hso, ← List.drop_drop, hsw]
        have hsd := suf_drop hso2
        refine T.br (fun h7 => by have := of_decide_eq_true h7; dsimp only at this; omega) fun _ => T.abl (by simp only [List.length_cons, List.length_nil]; omega) (hL _ ⟨by dsimp only; omega, by dsimp only; omega, ?_, f, ?_, ?_⟩ (by dsimp only; omega))
        · dsimp only; rw [List.length_append, List.length_singleton]; omega
        · dsimp only
          rw [show ((s.b.length : Int) - (r'.length : Int)).toNat = s.b.length - r'.length by omega, hsd]
          omega
        · dsimp only
          rw [show ((s.b.length : Int) - (r'.length : Int)).toNat = s.b.length - r'.length by omega, hsd]
end Go.Proofs.YtnnijoepfgnlfaaGreatDoor


namespace Go.Proofs.YtnnijoepfgnlfaaGreatDoor
open Go.Sy
set_option maxRecDepth 4000
def tokF (s : Str) : Option (List GTok × Int × Int) := some (toks s.b)
theorem tokF_eq : r04_Tokens = tokF := funext tokens_eq
def r05_ParseF (a_text : Str) : Option (GMod × Int × Int) :=
  cal (tokF a_text) fun y2 => br (!decide (y2.2.2 = (0 : Int))) (some ((GMod.mk (Str.mk []) (0 : Int) ([] : (List Str)) ([] : (List Int)) ([] : (List GNode))), y2.2.1, y2.2.2)) (cal (r05_parser_kind (GPar.mk y2.1 (0 : Int) (GMod.mk (Str.mk []) (0 : Int) ([] : (List Str)) ([] : (List Int)) ([] : (List GNode))) (0 : Int) (0 : Int)) (1 : Int)) fun y7 => cal (r05_parser_must (GPar.mk y7.2.l y7.2.at_ (GMod.mk y7.1 y7.2.m.tagging y7.2.m.names y7.2.m.types y7.2.m.nodes) y7.2.e y7.2.p) (Str.mk [68, 69, 70, 73, 78, 73, 84, 73, 79, 78, 83])) fun y10 => jp (ι := GPar) (fun J14 => cal (r05_parser_is y10 (Str.mk [69, 88, 80, 76, 73, 67, 73, 84])) fun y15 => br y15.1 (cal (r05_parser_must y15.2 (Str.mk [84, 65, 71, 83])) fun y18 => J14 (y18)) (cal (r05_parser_is y15.2 (Str.mk [73, 77, 80, 76, 73, 67, 73, 84])) fun y21 => br y21.1 (cal (r05_parser_must (GPar.mk y21.2.l y21.2.at_ (GMod.mk y21.2.m.name (1 : Int) y21.2.m.names y21.2.m.types y21.2.m.nodes) y21.2.e y21.2.p) (Str.mk [84, 65, 71, 83])) fun y24 => J14 (y24)) (cal (r05_parser_is y21.2 (Str.mk [65, 85, 84, 79, 77, 65, 84, 73, 67])) fun y27 => br y27.1 (cal (r05_parser_must (GPar.mk y27.2.l y27.2.at_ (GMod.mk y27.2.m.name (2 : Int) y27.2.m.names y27.2.m.types y27.2.m.nodes) y27.2.e y27.2.p) (Str.mk [84, 65, 71, 83])) fun y30 => J14 (y30)) (J14 (y27.2))))) (fun q13 => cal (r05_parser_must q13 (Str.mk [58, 58, 61])) fun y33 => cal (r05_parser_must y33 (Str.mk [66, 69, 71, 73, 78])) fun y36 => lp (ι := GPar) (fun L40 q39 => jp (ι := Bool × GPar) (fun J92 => br (decide (q39.e = (0 : Int))) (cal (r05_parser_is q39 (Str.mk [69, 78, 68])) fun y94 => J92 ((!y94.1), y94.2)) (J92 (false, q39))) (fun q91 => br q91.1 (cal (r05_parser_now q91.2) fun y97 => cal (r05_parser_kind y97.2 (1 : Int)) fun y101 => jp (ι := Bool) (fun J105 => br (decide (y101.2.e = (0 : Int))) (J105 ((decide ((40 : Int) ≤ (y101.2.m.names.length : Int))))) (J105 (false))) (fun q104 => jp (ι := GPar) (fun J108 => br q104 (cal (r05_parser_fail y101.2 (5 : Int) y97.1) fun y109 => J108 (y109)) (J108 (y101.2))) (fun q107 => cal (r05_parser_must q107 (Str.mk [58, 58, 61])) fun y112 => cal (r05_parser_typ fuel y112 (0 : Int)) fun y115 => asr (Nat.ble (y115.2.m.names.length + ([y101.1] : (List Str)).length) 68719476736) <| asr (Nat.ble (y115.2.m.types.length + ([y115.1] : (List Int)).length) 68719476736) <| L40 ((GPar.mk y115.2.l y115.2.at_ (GMod.mk y115.2.m.name y115.2.m.tagging (y115.2.m.names ++ ([y101.1] : (List Str))) (y115.2.m.types ++ ([y115.1] : (List Int))) y115.2.m.nodes) y115.2.e y115.2.p))))) (jp (ι := Bool × GPar) (fun J126 => br (decide (q91.2.e = (0 : Int))) (cal (r05_parser_now q91.2) fun y128 => J126 ((!decide (y128.1.kind = (0 : Int))), y128.2)) (J126 (false, q91.2))) (fun q125 => jp (ι := GPar) (fun J132 => br q125.1 (cal (r05_parser_now q125.2) fun y133 => cal (r05_parser_fail y133.2 (7 : Int) y133.1) fun y136 => J132 (y136)) (J132 (q125.2))) (fun q131 => br (!decide (q131.e = (0 : Int))) (some ((GMod.mk (Str.mk []) (0 : Int) ([] : (List Str)) ([] : (List Int)) ([] : (List GNode))), q131.p, q131.e)) (some (q131.m, (0 : Int), (0 : Int)))))))) ((y36))))
theorem r05_ParseF_eq : r05_Parse = r05_ParseF := by
  funext a_text
  unfold r05_Parse r05_ParseF
  rw [tokF_eq]
def oghamplay_TableF (a_text : Str) : Option (GTab × Bool) :=
  br (decide ((3000 : Int) < (a_text.b.length : Int))) (some ((GTab.mk (Str.mk []) ([] : (List Str)) ([] : (List Int)) ([] : (List GTyp))), false)) (cal (r05_ParseF a_text) fun y2 => br (!decide (y2.2.2 = (0 : Int))) (some ((GTab.mk (Str.mk []) ([] : (List Str)) ([] : (List Int)) ([] : (List GTyp))), false)) (cal (r10_Make y2.1) fun y4 => jp (ι := Bool) (fun J7 => br (decide (y4.2.2 = (0 : Int))) (J7 ((decide ((y4.1.types.length : Int) ≤ (120 : Int))))) (J7 (false))) (fun q6 => some (y4.1, q6))))
theorem oghamplay_TableF_eq : oghamplay_Table = oghamplay_TableF := by
  funext a_text
  unfold oghamplay_Table oghamplay_TableF
  rw [r05_ParseF_eq]
def law12_awakeF : Option (Bool) :=
  cal (oghamplay_TableF (Str.mk [77, 32, 68, 69, 70, 73, 78, 73, 84, 73, 79, 78, 83, 32, 58, 58, 61, 32, 66, 69, 71, 73, 78, 32, 65, 32, 58, 58, 61, 32, 73, 78, 84, 69, 71, 69, 82, 32, 40, 48, 46, 46, 55, 41, 32, 69, 78, 68])) fun y1 => jp (ι := Bool) (fun J4 => br y1.2 (cal (value_Fits y1.1 (0 : Int) (Val.mk (2 : Int) (7 : Int) ([] : (List UInt8)) ([] : (List Val)) (0 : Int) ([] : (List Raw)))) fun y6 => J4 (y6)) (J4 (false))) (fun q3 => jp (ι := Bool) (fun J8 => br q3 (cal (value_Fits y1.1 (0 : Int) (Val.mk (2 : Int) (8 : Int) ([] : (List UInt8)) ([] : (List Val)) (0 : Int) ([] : (List Raw)))) fun y10 => J8 ((!y10))) (J8 (false))) (fun q7 => jp (ι := Bool) (fun J12 => br q7 (cal (value_Count fuel (Val.mk (4 : Int) (0 : Int) ([] : (List UInt8)) ([] : (List Val)) (0 : Int) ([] : (List Raw)))) fun y14 => J12 ((decide (y14 = (1 : Int))))) (J12 (false))) (fun q11 => some (q11))))
theorem law12_awakeF_eq : law12_awake = law12_awakeF := by
  unfold law12_awake law12_awakeF
  rw [oghamplay_TableF_eq]
end Go.Proofs.YtnnijoepfgnlfaaGreatDoor


namespace Go.Proofs.YtnnijoepfgnlfaaGreatDoor
open Go.Sy
set_option maxRecDepth 4000
def law12_ValueDeepF (a_n_ : Int) (a_cut : Int) : Option (Bool) :=
  asr (!decide ((17 : UInt64) = 0)) <| ck ((((UInt64.ofNat (a_n_ % 18446744073709551616).toNat) % (17 : UInt64)).toNat : Int)) <| lp (ι := Str × Int × Val) (fun L5 q4 => br (decide (q4.2.1 < (((UInt64.ofNat (a_n_ % 18446744073709551616).toNat) % (17 : UInt64)).toNat : Int))) (asr (Nat.ble (q4.1.b.length + (Str.mk [83, 69, 81, 85, 69, 78, 67, 69, 32, 79, 70, 32]).b.length) 4611686018427387904) <| ck ((q4.2.1 + (1 : Int))) <| L5 ((Str.mk (q4.1.b ++ (Str.mk [83, 69, 81, 85, 69, 78, 67, 69, 32, 79, 70, 32]).b)), (q4.2.1 + (1 : Int)), (Val.mk (10 : Int) (0 : Int) ([] : (List UInt8)) ([q4.2.2] : (List Val)) (0 : Int) ([] : (List Raw))))) (asr (Nat.ble ((Str.mk [77, 32, 68, 69, 70, 73, 78, 73, 84, 73, 79, 78, 83, 32, 58, 58, 61, 32, 66, 69, 71, 73, 78, 32, 65, 32, 58, 58, 61, 32]).b.length + q4.1.b.length) 4611686018427387904) <| asr (Nat.ble ((Str.mk ((Str.mk [77, 32, 68, 69, 70, 73, 78, 73, 84, 73, 79, 78, 83, 32, 58, 58, 61, 32, 66, 69, 71, 73, 78, 32, 65, 32, 58, 58, 61, 32]).b ++ q4.1.b)).b.length + (Str.mk [78, 85, 76, 76, 32, 69, 78, 68]).b.length) 4611686018427387904) <| cal (oghamplay_TableF (Str.mk ((Str.mk ((Str.mk [77, 32, 68, 69, 70, 73, 78, 73, 84, 73, 79, 78, 83, 32, 58, 58, 61, 32, 66, 69, 71, 73, 78, 32, 65, 32, 58, 58, 61, 32]).b ++ q4.1.b)).b ++ (Str.mk [78, 85, 76, 76, 32, 69, 78, 68]).b))) fun y69 => ck (((((UInt64.ofNat (a_n_ % 18446744073709551616).toNat) % (17 : UInt64)).toNat : Int) + (1 : Int))) <| asr (!decide ((UInt64.ofNat (((((UInt64.ofNat (a_n_ % 18446744073709551616).toNat) % (17 : UInt64)).toNat : Int) + (1 : Int)) % 18446744073709551616).toNat) = 0)) <| ck ((((UInt64.ofNat (a_cut % 18446744073709551616).toNat) % (UInt64.ofNat (((((UInt64.ofNat (a_n_ % 18446744073709551616).toNat) % (17 : UInt64)).toNat : Int) + (1 : Int)) % 18446744073709551616).toNat)).toNat : Int)) <| lp (ι := Int × Val) (fun L76 q75 => br (decide ((0 : Int) < q75.1)) (cal (getI q75.2.l (0 : Int)) fun y99 => ck ((q75.1 - (1 : Int))) <| L76 ((q75.1 - (1 : Int)), y99)) (ck (((((UInt64.ofNat (a_n_ % 18446744073709551616).toNat) % (17 : UInt64)).toNat : Int) + (1 : Int))) <| asr (!decide ((UInt64.ofNat (((((UInt64.ofNat (a_n_ % 18446744073709551616).toNat) % (17 : UInt64)).toNat : Int) + (1 : Int)) % 18446744073709551616).toNat) = 0)) <| ck ((((UInt64.ofNat (a_cut % 18446744073709551616).toNat) % (UInt64.ofNat (((((UInt64.ofNat (a_n_ % 18446744073709551616).toNat) % (17 : UInt64)).toNat : Int) + (1 : Int)) % 18446744073709551616).toNat)).toNat : Int)) <| cal (law12_awakeF ) fun y104 => jp (ι := Bool) (fun J106 => br y104 (J106 (y69.2)) (J106 (false))) (fun q105 => jp (ι := Bool) (fun J109 => br q105 (cal (value_Fits y69.1 (0 : Int) q4.2.2) fun y111 => J109 (y111)) (J109 (false))) (fun q108 => jp (ι := Bool) (fun J113 => br q108 (cal (value_Fits y69.1 (0 : Int) q75.2) fun y115 => J113 ((decide (y115 = (decide ((((UInt64.ofNat (a_cut % 18446744073709551616).toNat) % (UInt64.ofNat (((((UInt64.ofNat (a_n_ % 18446744073709551616).toNat) % (17 : UInt64)).toNat : Int) + (1 : Int)) % 18446744073709551616).toNat)).toNat : Int) = (0 : Int))))))) (J113 (false))) (fun q112 => jp (ι := Bool) (fun J117 => br q112 (cal (value_Count fuel q4.2.2) fun y119 => ck (((((UInt64.ofNat (a_n_ % 18446744073709551616).toNat) % (17 : UInt64)).toNat : Int) + (1 : Int))) <| J117 ((decide (y119 = ((((UInt64.ofNat (a_n_ % 18446744073709551616).toNat) % (17 : UInt64)).toNat : Int) + (1 : Int)))))) (J117 (false))) (fun q116 => some (q116))))))) (((((UInt64.ofNat (a_cut % 18446744073709551616).toNat) % (UInt64.ofNat (((((UInt64.ofNat (a_n_ % 18446744073709551616).toNat) % (17 : UInt64)).toNat : Int) + (1 : Int)) % 18446744073709551616).toNat)).toNat : Int), q4.2.2)))) (((Str.mk []), (0 : Int), (Val.mk (4 : Int) (0 : Int) ([] : (List UInt8)) ([] : (List Val)) (0 : Int) ([] : (List Raw)))))
theorem law12_ValueDeepF_eq : law12_ValueDeep = law12_ValueDeepF := by
  funext a_n_ a_cut
  unfold law12_ValueDeep law12_ValueDeepF
  rw [oghamplay_TableF_eq, law12_awakeF_eq]
end Go.Proofs.YtnnijoepfgnlfaaGreatDoor


namespace Go.Proofs.YtnnijoepfgnlfaaGreatDoor
open Go.Sy
def yes (o : Option Bool) : Bool := match o with
  | some true => true
  | _ => false
theorem of_yes {o : Option Bool} (h : yes o = true) : o = some true := by
  unfold yes at h
  split at h
  · rfl
  · cases h
def wd (n : Int) : UInt64 := UInt64.ofNat (n % 18446744073709551616).toNat
theorem wd_nat {x : Nat} (h : x < 18446744073709551616) : (wd (x : Int)).toNat = x := by
  unfold wd
  rw [UInt64.toNat_ofNat']
  omega
theorem wd_mod (n : Int) (k : UInt64) (hk : 0 < k.toNat) : wd (((wd n % k).toNat : Nat) : Int) % k = wd n % k := by
  apply UInt64.toNat_inj.1
  have h := Nat.mod_lt (wd n).toNat hk
  have h2 := (wd n).toNat_lt
  rw [UInt64.toNat_mod, UInt64.toNat_mod, wd_nat (by have := k.toNat_lt; omega)]
  exact Nat.mod_mod _ _
theorem red (n : Int) (k : UInt64) (hk : 0 < k.toNat) : ∃ x : Nat, x < k.toNat ∧ wd n % k = wd (x : Int) % k :=
  ⟨(wd n % k).toNat, by rw [UInt64.toNat_mod]; exact Nat.mod_lt _ hk, (wd_mod n k hk).symm⟩
theorem all_get {n : Nat} {p : Nat → Bool} (h : ((List.range n).all p) = true) {x : Nat} (hx : x < n) : p x = true := List.all_eq_true.1 h x (List.mem_range.2 hx)
end Go.Proofs.YtnnijoepfgnlfaaGreatDoor


namespace Go.Proofs.YtnnijoepfgnlfaaGreatDoor
open Go.Sy
set_option maxRecDepth 8000
theorem deep_0 : ((List.range 1).all fun b => yes (law12_ValueDeepF 0 b)) = true := by kernel_rfl
theorem deep_1 : ((List.range 2).all fun b => yes (law12_ValueDeepF 1 b)) = true := by kernel_rfl
theorem deep_2 : ((List.range 3).all fun b => yes (law12_ValueDeepF 2 b)) = true := by kernel_rfl
theorem deep_3 : ((List.range 4).all fun b => yes (law12_ValueDeepF 3 b)) = true := by kernel_rfl
theorem deep_4 : ((List.range 5).all fun b => yes (law12_ValueDeepF 4 b)) = true := by kernel_rfl
theorem deep_5 : ((List.range 6).all fun b => yes (law12_ValueDeepF 5 b)) = true := by kernel_rfl
theorem deep_6 : ((List.range 7).all fun b => yes (law12_ValueDeepF 6 b)) = true := by kernel_rfl
theorem deep_7 : ((List.range 8).all fun b => yes (law12_ValueDeepF 7 b)) = true := by kernel_rfl
theorem deep_8 : ((List.range 9).all fun b => yes (law12_ValueDeepF 8 b)) = true := by kernel_rfl
theorem deep_9 : ((List.range 10).all fun b => yes (law12_ValueDeepF 9 b)) = true := by kernel_rfl
theorem deep_10 : ((List.range 11).all fun b => yes (law12_ValueDeepF 10 b)) = true := by kernel_rfl
theorem deep_11 : ((List.range 12).all fun b => yes (law12_ValueDeepF 11 b)) = true := by kernel_rfl
theorem deep_12 : ((List.range 13).all fun b => yes (law12_ValueDeepF 12 b)) = true := by kernel_rfl
theorem deep_13 : ((List.range 14).all fun b => yes (law12_ValueDeepF 13 b)) = true := by kernel_rfl
theorem deep_14 : ((List.range 15).all fun b => yes (law12_ValueDeepF 14 b)) = true := by kernel_rfl
theorem deep_15 : ((List.range 16).all fun b => yes (law12_ValueDeepF 15 b)) = true := by kernel_rfl
theorem deep_16 : ((List.range 17).all fun b => yes (law12_ValueDeepF 16 b)) = true := by kernel_rfl
theorem deep_all : ∀ {x : Nat}, x < 17 → ∀ {z : Nat}, z < x + 1 → yes (law12_ValueDeepF x z) = true
  | 0, _, _, h => all_get deep_0 h
  | 1, _, _, h => all_get deep_1 h
  | 2, _, _, h => all_get deep_2 h
  | 3, _, _, h => all_get deep_3 h
  | 4, _, _, h => all_get deep_4 h
  | 5, _, _, h => all_get deep_5 h
  | 6, _, _, h => all_get deep_6 h
  | 7, _, _, h => all_get deep_7 h
  | 8, _, _, h => all_get deep_8 h
  | 9, _, _, h => all_get deep_9 h
  | 10, _, _, h => all_get deep_10 h
  | 11, _, _, h => all_get deep_11 h
  | 12, _, _, h => all_get deep_12 h
  | 13, _, _, h => all_get deep_13 h
  | 14, _, _, h => all_get deep_14 h
  | 15, _, _, h => all_get deep_15 h
  | 16, _, _, h => all_get deep_16 h
  | n + 17, h, _, _ => absurd h (by omega)
theorem deep_true (n b : Int) : law12_ValueDeep n b = some true := by
  rw [law12_ValueDeepF_eq]
  obtain ⟨x, hx, h1⟩ := red n 17 (by decide)
  have hx6 : x < 17 := hx
  have e0 : ((wd (x : Int) % 17).toNat : Nat) = x := by
    rw [UInt64.toNat_mod, wd_nat (by omega)]; exact Nat.mod_eq_of_lt hx6
  have ek : (wd (((wd (x : Int) % 17).toNat : Int) + (1 : Int))).toNat = x + 1 := by
    have : (((wd (x : Int) % 17).toNat : Int) + (1 : Int)) = ((x + 1 : Nat) : Int) := by rw [e0]; omega
    rw [this, wd_nat (by omega)]
  obtain ⟨z, hz, h3⟩ := red b (wd (((wd (x : Int) % 17).toNat : Int) + (1 : Int))) (by omega)
  rw [ek] at hz
  have e : law12_ValueDeepF n b = law12_ValueDeepF x z := by
    unfold law12_ValueDeepF
    unfold wd at h1 h3
    rw [h1, h3]
  rw [e]
  exact of_yes (deep_all hx6 hz)
end Go.Proofs.YtnnijoepfgnlfaaGreatDoor


namespace Go.Proofs.YtnnijoepfgnlfaaGreatDoor
open Go.Sy Go.Shelf Go.Lib Go.ChangeShapes Go.WideShapes Go.ChangeAt Go.RowKit

theorem valueDeep_laid : Rows.valueDeepRow.laid = laidTwo := by kernel_rfl
theorem valueDeep_ctr (a0 : Int) (a1 : Int) : Ctr Tryz.prog 7 [isv a0, isv a1] [] (pureP true) := law12_ValueDeep_w (deep_true a0 a1)

theorem valueDeep_witness (os : Os) {H : Type} (enc : TypeId × Value → H) :
    (OpenSpec.ofChange Rows.valueDeepSpec).preRow enc Tryz.prog Tryz.f7 [] false laidTwo ((laidWorld os).forCall (fun _ _ => 0) ⟨#[], #[.int .i64 0, .int .i64 0], []⟩).memory #[.int .i64 0, .int .i64 0] := by
  have hw : (DataW.whole enc Tryz.prog ((laidWorld os).forCall (fun _ _ => 0) ⟨#[], #[.int .i64 0, .int .i64 0], []⟩).memory Tryz.f7.params.toList (OpenSpec.ofChange Rows.valueDeepSpec).vars false #[Value.int .i64 0, .int .i64 0].toList 8).map (fun x => (x.1, x.2.1)) =
      some ([.lit (.int .i64 0), .lit (.int .i64 0)], []) := by kernel_rfl
  obtain ⟨⟨x1, x2, x3⟩, hx, hx1⟩ := Option.map_eq_some_iff.1 hw
  simp only [Prod.mk.injEq] at hx1
  obtain ⟨rfl, rfl⟩ := hx1
  exact OpenSpec.preRow_of_cond 8 hx (by kernel_rfl) (fun k hk => by cases hk) (by kernel_rfl) (laid_met os _)

set_option maxRecDepth 100000 in
theorem valueDeep_lifted (os : Os) (started : os.Started) (H : Type) (enc : TypeId × Value → H) (F : Stop.Interp) :
    ReturnsInHanded {} Tryz.checked os 7 .any ((OpenSpec.ofChange Rows.valueDeepSpec).preRow enc Tryz.prog Tryz.f7 [] false laidTwo) (((OpenSpec.ofChange Rows.valueDeepSpec).at F).post enc Tryz.prog Tryz.f7 false true false false) :=
  law_laid (C := Tryz.checked) (B := 4) own started (by kernel_rfl) Tryz.func7
    (witness_row_atRef (enc := enc) (C := Tryz.checked) false (laidWorld os) _ rfl (by kernel_rfl) (by kernel_rfl) (by kernel_rfl) (valueDeep_witness os enc))
    laidOut (by kernel_rfl) rfl rfl Tryz.underlying4
    (fun ds h => by
      match ds, h with
      | [_, _], _ => rfl)
    tabs_laid
    (fun W vs ds p hT ht hw hk => run2 (t1 := 3) (t2 := 3) hT valueDeep_ctr (Opn.int Tryz.underlying3) (Opn.int Tryz.underlying3) ht hw hk)

theorem valueDeep_said : Rows.ValueDeepSaid :=
  OpenClaim.holds_of_cond 7 Tryz.f7 rfl rfl rfl rfl rfl rfl rfl ⟨rfl, rfl, rfl, rfl, rfl⟩ rfl rfl rfl rfl rfl (by kernel_rfl) Tryz.func7 (by kernel_rfl)
    (of_decide_eq_true (by kernel_rfl)) (by unfold Func.isWrapper; rw [if_neg (of_decide_eq_false (by kernel_rfl))]; exact ⟨rfl, rfl⟩)
    (fun os started H enc _ F0 => by rw [OpenClaim.pre_eq_preRow, valueDeep_laid]; exact valueDeep_lifted os started H enc F0)

theorem valueDeep_card : Rows.ValueDeepCardSaid :=
  Claim7.holds_tied_plain_at .later [] [.data, .pinned] true (true, "33f0ff24a6f6b96029c8328fb408170f6a8e3b1c3777a71f54fe010b9324b2ff") false
    valueDeep_said (fun _ h => by cases h) (by kernel_rfl) (fun _ h => by cases h) valueDeep_row_tie rfl ⟨rfl, rfl⟩ (by kernel_rfl) rfl
    (fun f fn hf hfn => by
      obtain rfl : f = 7 := Option.some.inj ((show Tryz.prog.funcNamed Rows.valueDeepRow.func = some 7 by kernel_rfl).symm.trans hf) |>.symm
      obtain rfl : fn = Tryz.f7 := (Option.some.inj (Tryz.func7.symm.trans hfn)).symm
      exact ⟨by kernel_rfl, fun j t ht => by
        have e : (Tryz.f7.params.toList.all fun t => !Tryz.prog.wantsStandIn t) = true := by kernel_rfl
        have := List.all_eq_true.1 e t (List.mem_of_getElem? (i := j) (by simpa using ht))
        exact (by simpa using this : Tryz.prog.wantsStandIn t = false)⟩)
    (by kernel_rfl)
end Go.Proofs.YtnnijoepfgnlfaaGreatDoor


