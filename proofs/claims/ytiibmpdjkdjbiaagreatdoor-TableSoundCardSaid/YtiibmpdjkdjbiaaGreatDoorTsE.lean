/- Walks, printed by mill.py. -/
import Derived.Test.YtiibmpdjkdjbiaaGreatDoorTsA
import Derived.Test.YtiibmpdjkdjbiaaGreatDoorTsB
import Derived.Test.YtiibmpdjkdjbiaaGreatDoorTsC
import Derived.Test.YtiibmpdjkdjbiaaGreatDoorTsD
set_option linter.unusedVariables false
set_option linter.unusedSimpArgs false

namespace Go.Proofs.YtiibmpdjkdjbiaaGreatDoor
open Go.Sy
set_option maxRecDepth 4000
theorem refs_of_w : ∀ {a_m : GMod} {a_at_ : Int} {r : Int}, refs_of a_m a_at_ = some r → Ctr Tryz.prog 55 [isv (a_m), isv (a_at_)] [] (fun R H => R = oneOf [isv (r)] ∧ H = []) := by
 intro a_m a_at_ r h
 unfold refs_of at h
 refine spec_introD Tryz.func55 rfl fun w0 S0 hT => wsr (oT (t_boxIC (y := a_m) rfl hI (oA rfl (rnf (w_seq (wsr (oM rfl (oV (v_fi rfl GMod.f3 fd26_3 rfl (z := a_m.types)) ?_))))))))
 refine oV (v_loadI ty23 rfl) (oV (v_ln (l := a_m.types) rfl hI sl23) (oV (v_geq rfl rfl) (rnf (w_condM h rfl (fun _ h => ?_) (fun _ h => ?_)))))
 ·refine wsr (oA rfl (rnf (w_ret (ret_nxt ?_))))
  cases h
  exact ret_post (.tmp rfl .nil) .nil ⟨rfl, rfl⟩
 refine wkf (wsr (oV (v_fi rfl GMod.f3 fd26_3 rfl (z := a_m.types)) (oV (v_loadI ty23 rfl) (oM rfl (cal_inv h fun y1 hy1 h => oV (v_ix (l := a_m.types) rfl hI rfl sl23 hy1) (oV (v_loadI ty3 rfl) (oA rfl ?_)))))))
 refine rnf (w_ret ?_)
 cases h
 exact ret_post (.tmp rfl .nil) .nil ⟨rfl, rfl⟩


theorem slices_Index_Lstring_string_w : ∀ {a_s : (List Str)} {a_v : Str} {r : Int}, slices_Index_Lstring_string a_s a_v = some r → Ctr Tryz.prog 45 [isv (a_s), isv (a_v)] [] (fun R H => R = oneOf [isv (r)] ∧ H = []) := by
 intro a_s a_v r h
 unfold slices_Index_Lstring_string at h
 refine spec_introD Tryz.func45 rfl fun w0 S0 hT => wsr (oA rfl (rnf (w_seq (wsr (oM rfl (oV (v_ln (l := a_s) rfl hI sl22) (oM rfl ?_)))))))
 refine rnf (w_block (w_lp (ι := Int) (γ := Unit) (fun q1 g1 => [(8, isv (q1))]) (fun q1 g1 => []) h () (mod_cons (j := 8) rfl hI mod_nil) .nil (fun L2 q1 g1 Q7 h hL2 eL2 rL2 => wsr (oV (v_lss rfl rfl) (rnf (w_seq (w_condM h rfl (fun _ h => ?_) (fun _ h => ?_))))))))
 ·refine wkf (w_seq (w_block (wsr (oM rfl (oA rfl (rnf (wsr (oM rfl ?_))))))))
  refine oM rfl (oM rfl (cal_inv h fun y5 hy5 h => oV (v_ix (l := a_s) rfl hI rfl sl22 hy5) (oV (v_loadI ty9 rfl) (oV (v_eqA eq9 rfl rfl) (rnf (w_condM h rfl (fun _ h => ?_) (fun _ h => ?_)))))))
  ·refine wsr (oM rfl (oA rfl (rnf (w_ret (ret_block (ret_nxt (rL2 _ (ret_block ?_))))))))
   refine ret_nxt ?_
   cases h
   exact ret_post (.tmp rfl .nil) .nil ⟨rfl, rfl⟩
  exact w_skip (fin_block (fin_nxt (w_region (ck_inv h fun q6 h => oV (v_add rfl rfl q6) (oM rfl (rl_nil (hL2 _ () h _ (ji 12 8 rfl rfl rfl))))))))
 refine w_exit (exi_nxt (eL2 _ _ (exi_block (fin_nxt (wsr (oA rfl (rnf (w_ret ?_))))))))
 cases h
 exact ret_post (.tmp rfl .nil) .nil ⟨rfl, rfl⟩


theorem slices_Contains_Lstring_string_w : ∀ {a_s : (List Str)} {a_v : Str} {r : Bool}, slices_Contains_Lstring_string a_s a_v = some r → Ctr Tryz.prog 121 [isv (a_s), isv (a_v)] [] (fun R H => R = oneOf [isv (r)] ∧ H = []) := by
 intro a_s a_v r h
 unfold slices_Contains_Lstring_string at h
 refine spec_introD Tryz.func121 rfl fun w0 S0 hT => wsr (oA rfl (rnf (wsr (oM rfl (oM rfl (cal_inv h fun y1 hy1 h => oT (t_callE (slices_Index_Lstring_string_w hy1) hT (s2 rfl rfl) .nil ?_)))))))
 refine oV (v_geq rfl rfl) (oA rfl (rnf (w_ret ?_)))
 cases h
 exact ret_post (.tmp rfl .nil) .nil ⟨rfl, rfl⟩


theorem refs_with_w : ∀ {a_l : (List Str)} {a_more : (List Str)} {t_a_l : Tok} {r : (List Str)}, refs_with a_l a_more = some r → Ctr Tryz.prog 102 [appv t_a_l (a_l), isv (a_more)] [tokE t_a_l] (fun R H => ∃ u1 : Tok, R = oneOf [appv u1 (r)] ∧ H = [tokE u1]) := by
 intro a_l a_more t_a_l r h
 unfold refs_with at h
 refine spec_introD Tryz.func102 rfl fun w0 S0 hT => wsr (oA rfl (rnf (w_seq (wsr (oM rfl (oV (v_ln (l := a_more) rfl hI sl22) (oM rfl ?_)))))))
 refine rnf (w_block (w_lp (ι := (List Str) × Int) (γ := Tok) (fun q1 g1 => [(0, appv g1 (q1.1)), (9, isv (q1.2))]) (fun q1 g1 => [tokE g1]) h (t_a_l) (mod_cons (j := 0) rfl hI (mod_cons (j := 9) rfl hI mod_nil)) k1 (fun L2 q1 g1 Q19 h hL2 eL2 rL2 => wsr (oV (v_lss rfl rfl) (rnf (w_seq (w_condM h rfl (fun _ h => ?_) (fun _ h => ?_))))))))
 ·refine wkf (w_seq (w_J (ι := (List Str)) (γ := Tok) (fun q11 g11 => [(0, appv g11 (q11))]) (fun q11 g11 => [tokE g11]) k1 h (fun q11 g11 h => ?_) (fun J12 h hJ12 => ?_)))
  ·exact w_region (ck_inv h fun q18 h => oV (v_add rfl rfl q18) (oM rfl (rl_nil (hL2 _ (g11) h _ (join_imp 6 rfl rfl (mod_cons (j := 0) rfl hI (mod_cons (j := 9) rfl hI mod_nil)) k1)))))
  refine w_block (wsr (cal_inv h fun y13 hy13 h => oV (v_ix (l := a_more) rfl hI rfl sl22 hy13) (oV (v_loadI ty9 rfl) (oA rfl (rnf (wsr (oM rfl ?_)))))))
  refine oM rfl (cal_inv h fun y14 hy14 h => oT (t_callE (slices_Contains_Lstring_string_w hy14) hT (.cons rfl appv_isv (s1 rfl)) .nil (oV (v_not rfl) (rnf (w_condM h rfl (fun _ h => ?_) (fun _ h => ?_))))))
  ·refine w_region (oM rfl (oM rfl (oT (t_buildSlice (l := ([y13] : (List Str))) el22 (.cons rfl hI .nil) rfl rfl (asr_inv h fun q17 h => oT (t_appC (l := q1.1) (m := ([y13] : (List Str))) ap22_22 rfl hI rfl appv_isv .here q17 fun t16 => oA rfl (rl_nil (fin_block ?_))))))))
   exact hJ12 _ (t16) h _ (jk 12 0 rfl rfl rfl)
  exact w_skip (fin_block (hJ12 _ (g1) h _ (jk 7 0 rfl rfl rfl)))
 refine w_exit (exi_nxt (eL2 _ _ (exi_block (fin_nxt (wsr (oM rfl (oA rfl (rnf ?_))))))))
 refine w_ret (ret_post (.tmp rfl .nil) k1 ?_)
 cases h
 exact ⟨g1, rfl, rfl⟩


theorem refs_refers_c1_w : ∀ {a_n_ : GNode} {a_a1 : (List Str)} {b_a_a1 : Nat} {t_a_a11 : Tok} {r : (List Str)}, refs_refers_c1 a_n_ a_a1 = some r → Ctr Tryz.prog 101 [isv (a_n_), ptrv b_a_a1 (Fld.id (TList Str))] [boxE b_a_a1 ((TList.mk t_a_a11 a_a1) : (TList Str)), tokE t_a_a11] (fun R H => ∃ u1 : Tok, R = oneOf [] ∧ H = [boxE b_a_a1 ((TList.mk u1 r)), tokE u1]) := by
 intro a_n_ a_a1 b_a_a1 t_a_a11 r h
 unfold refs_refers_c1 at h
 refine spec_introD Tryz.func101 rfl fun w0 S0 hT => wsr (oT (t_boxIC (y := a_n_) rfl hI (rnf (wsr (oV (v_fi rfl GNode.f0 fd120_0 rfl (z := a_n_.kind)) (oV (v_loadI ty3 rfl) (oV (v_eql rfl rfl) (rnf ?_))))))))
 refine w_condM h rfl (fun _ h => ?_) (fun _ h => ?_)
 ·refine w_region (oT (t_loadC (R := appv t_a_a11 (a_a1)) ty22 rfl .here isvT1 (oV (v_fi rfl GNode.f1 fd120_1 rfl (z := a_n_.name)) (oV (v_loadI ty9 rfl) (oT (t_buildSlice (l := ([a_n_.name] : (List Str))) el22 (.cons rfl hI .nil) rfl rfl (cal_inv h fun y3 hy3 h => oT (t_call (refs_with_w hy3) hT (.same rfl (.cons rfl appv_isv .nil)) (.cons tH .nil) (fun R H' hR => ?_)))))))))
  obtain ⟨t4, rfl, rfl⟩ := hR
  refine oT (t_storeC (y' := ((TList.mk t4 y3) : (TList Str))) ty22 rfl rfl isvT2 tH rfl (rl_nil (fin_post .nil k2 ?_)))
  cases h
  exact ⟨t4, rfl, rfl⟩
 refine w_skip (fin_post .nil k2 ?_)
 cases h
 exact ⟨t_a_a11, rfl, rfl⟩


def refs_walk_C (f' : GMod → Int → (List Bool) → (List Str) → Option ((List Bool) × (List Str))) : Prop :=
 ∀ {a_m : GMod} {a_node : Int} {a_seen : (List Bool)} {a_do__0 : (List Str)} {v_a_seen : Vt} {b_a_do__0 : Nat} {t_a_do__01 : Tok} {r : (List Bool) × (List Str)}, f' a_m a_node a_seen a_do__0 = some r → Ctr Tryz.prog 100 [isv (a_m), isv (a_node), vecv v_a_seen (a_seen.length), clov 101 [ptrv b_a_do__0 (Fld.id (TList Str))]] [vecE v_a_seen (a_seen : List Bool), boxE b_a_do__0 ((TList.mk t_a_do__01 a_do__0) : (TList Str)), tokE t_a_do__01] (fun R H => ∃ u1 : Tok, R = oneOf [] ∧ H = [vecE v_a_seen (r.1), boxE b_a_do__0 ((TList.mk u1 r.2)), tokE u1])
theorem refs_walk_w0 {refs_walk' : GMod → Int → (List Bool) → (List Str) → Option ((List Bool) × (List Str))} (h_refs_walk : refs_walk_C refs_walk') : ∀ {a_m : GMod} {a_node : Int} {a_seen : (List Bool)} {a_do__0 : (List Str)} {v_a_seen : Vt} {b_a_do__0 : Nat} {t_a_do__01 : Tok} {r : (List Bool) × (List Str)}, refs_walk_F refs_walk' a_m a_node a_seen a_do__0 = some r → Ctr Tryz.prog 100 [isv (a_m), isv (a_node), vecv v_a_seen (a_seen.length), clov 101 [ptrv b_a_do__0 (Fld.id (TList Str))]] [vecE v_a_seen (a_seen : List Bool), boxE b_a_do__0 ((TList.mk t_a_do__01 a_do__0) : (TList Str)), tokE t_a_do__01] (fun R H => ∃ u1 : Tok, R = oneOf [] ∧ H = [vecE v_a_seen (r.1), boxE b_a_do__0 ((TList.mk u1 r.2)), tokE u1]) := by
 intro a_m a_node a_seen a_do__0 v_a_seen b_a_do__0 t_a_do__01 r h
 unfold refs_walk_F at h
 refine spec_introD Tryz.func100 rfl fun w0 S0 hT => wsr (oT (t_boxIC (y := a_m) rfl hI (rnf (w_seq (wsr (oM rfl (oV (v_lss rfl rfl) (oM rfl ?_))))))))
 refine rl_j (jb 19) je .nil h 6 rfl (fun q2 g2 h => ?_) (fun J3 h hJ3 => ?_)
 ·refine oM rfl (rl_j (jb 25) je .nil h 5 rfl (fun q5 g5 h => ?_) (fun J6 h hJ6 => ?_))
  ·refine rnf (w_condM h rfl (fun _ h => ?_) (fun _ h => ?_))
   ·refine w_ret (ret_nxt (ret_post .nil k3 ?_))
    cases h
    exact ⟨t_a_do__01, rfl, rfl⟩
   refine wkf (wsr (oM rfl (oM rfl (asd_inv h fun q10 h => oV (v_vidx (α := Bool) sl55 rfl rfl q10.1 q10.2) (cal_inv h fun y11 hy11 h => oT (t_vstore ty4 rfl rfl .here hy11 (rnf ?_)))))))
   refine wsr (oV (v_fi rfl GMod.f4 fd26_4 rfl (z := a_m.nodes)) (oV (v_loadI ty24 rfl) (oM rfl (cal_inv h fun y12 hy12 h => oV (v_ix (l := a_m.nodes) rfl hI rfl sl24 hy12) (oV (v_loadI ty120 rfl) (oT (t_alloc _ ze120 fun b13 => oT (t_storeC (y' := (y12 : GNode)) ty120 rfl rfl hI .here rfl ?_))))))))
   refine rl_upd (upd_imm 8 .here rfl) (rnf (wsr (oM rfl (oV (v_loadI ty120 rfl) (cal_inv h fun y14 hy14 h => oT (t_callC rfl (s1 rfl) (refs_refers_c1_w hy14) hT (.cons tH (.cons tH .nil)) (fun R H' hR => ?_)))))))
   obtain ⟨t15, rfl, rfl⟩ := hR
   refine rnf (w_seq (wsr (oV (v_fi rfl GNode.f0 fd120_0 rfl (z := y12.kind)) (oV (v_loadI ty3 rfl) (oV (v_eql rfl rfl) (rnf (w_condM h rfl (fun _ h => ?_) (fun _ h => ?_))))))))
   ·refine w_ret (ret_nxt (ret_post .nil (.cons tI k2) ?_))
    cases h
    exact ⟨t15, rfl, rfl⟩
   refine wkf (w_seq (wsr (oV (v_fi rfl GNode.f5 fd120_5 rfl (z := y12.fields)) (oV (v_loadI ty41 rfl) (oV (v_ln (l := y12.fields) rfl hI sl41) (oM rfl (rnf (w_block ?_))))))))
   refine w_lp (ι := (List Bool) × Int × (List Str)) (γ := Tok) (fun q16 g16 => [(26, anyv), (43, isv (q16.2.1)), (2, vecv v_a_seen (q16.1.length))]) (fun q16 g16 => [vecE v_a_seen (q16.1 : List Bool), boxE b_a_do__0 ((TList.mk g16 q16.2.2) : (TList Str)), tokE g16]) h (t15) (mod_cons (j := 26) rfl (fun _ _ _ => trivial) (mod_cons (j := 43) rfl hI (mod_cons (j := 2) rfl (vecvE (by first | rfl | simp)) mod_nil))) (.cons tI k2) (fun L17 q16 g16 Q36 h hL17 eL17 rL17 => ?_)
   refine wsr (oV (v_lss rfl rfl) (rnf (w_seq (w_condM h rfl (fun _ h => ?_) (fun _ h => ?_)))))
   ·refine wkf (w_seq (w_block (wsr (cal_inv h fun y27 hy27 h => oV (v_ix (l := y12.fields) rfl hI rfl sl41 hy27) (oV (v_loadI ty51 rfl) (oT (t_alloc _ ze51 fun b28 => oT (t_storeC (y' := (y27 : GFld)) ty51 rfl rfl hI .here rfl ?_))))))))
    refine rl_upd (upd_imm 10 .here rfl) (rnf (w_region (oV (v_loadI ty26 rfl) (oV (v_fi rfl GFld.f1 fd51_1 rfl (z := y27.ty)) (oV (v_loadI ty3 rfl) (oM rfl (oM rfl (cal_inv h fun y29 hy29 h => ?_))))))))
    refine oT (t_call (h_refs_walk hy29) hT (.same rfl (.same rfl (.cons rfl (fun _ _ h => vecvE (by first | rfl | simp) _ _ h) (s1 rfl)))) k3 (fun R H' hR => ?_))
    obtain ⟨t30, rfl, rfl⟩ := hR
    refine asd_inv h fun q31 h => rl_upd (upd_slot 2 rfl (vecvE q31.symm)) (rl_upd (upd_slot 50 rfl (vecvE q31.symm)) (rl_nil (fin_block (fin_nxt (w_region (ck_inv h fun q32 h => oV (v_add rfl rfl q32) ?_))))))
    exact oM rfl (rl_nil (hL17 _ (t30) h _ (join_imp 18 rfl rfl (mod_cons (j := 26) rfl (fun _ _ _ => trivial) (mod_cons (j := 43) rfl hI (mod_cons (j := 2) rfl (vecvE (by first | rfl | simp)) mod_nil))) k3)))
   refine w_exit (exi_nxt (eL17 _ _ (exi_block (fin_nxt (wsr (oV (v_fi rfl GNode.f0 fd120_0 rfl (z := y12.kind)) (oV (v_loadI ty3 rfl) (oV (v_eql rfl rfl) ?_))))))))
   refine rnf (w_condM h rfl (fun _ h => ?_) (fun _ h => ?_))
   ·refine w_region (oV (v_loadI ty26 rfl) (oV (v_fi rfl GNode.f8 fd120_8 rfl (z := y12.of)) (oV (v_loadI ty3 rfl) (oM rfl (oM rfl (cal_inv h fun y33 hy33 h => oT (t_call (h_refs_walk hy33) hT (.same rfl (.same rfl (.cons rfl (fun _ _ h => vecvE (by first | rfl | simp) _ _ h) (s1 rfl)))) k3 (fun R H' hR => ?_))))))))
    obtain ⟨t34, rfl, rfl⟩ := hR
    refine asd_inv h fun q35 h => rl_upd (upd_slot 2 rfl (vecvE q35.symm)) (rl_upd (upd_slot 60 rfl (vecvE q35.symm)) (rl_nil (fin_post .nil k3 ?_)))
    cases h
    exact ⟨t34, rfl, rfl⟩
   refine w_skip (fin_post .nil k3 ?_)
   cases h
   exact ⟨g16, rfl, rfl⟩
  refine rl_condM (j := 20) h rfl (fun g7 h => ?_) (fun g7 h => ?_)
  ·exact oP 20 rfl rfl g7 (oP 20 rfl rfl g7 (oP 20 rfl rfl g7 (oP 20 rfl rfl g7 (oV (v_pick_t rfl g7 rfl) (hJ6 _ () h _ (join_imp 5 rfl rfl (mod_cons (j := 25) rfl hI mod_nil) k3))))))
  refine oK 20 rfl rfl rfl g7 (v_move rfl) (oK 20 rfl rfl rfl g7 (v_move rfl) (asd_inv h fun q8 h => oK 20 rfl rfl rfl g7 (v_vidx (α := Bool) sl55 rfl rfl q8.1 q8.2) (cal_inv h fun y9 hy9 h => op_take rfl rfl (dj := 20) rfl g7 (t_vload ty4 rfl .here hy9 ?_))))
  exact oV (v_pick_f rfl g7 rfl) (hJ6 _ () h _ (join_imp 5 rfl rfl (mod_cons (j := 25) rfl hI mod_nil) k3))
 refine rl_condM (j := 13) h rfl (fun g4 h => ?_) (fun g4 h => ?_)
 ·exact oP 13 rfl rfl g4 (oP 13 rfl rfl g4 (oP 13 rfl rfl g4 (oP 13 rfl rfl g4 (oP 13 rfl rfl g4 (oV (v_pick_t rfl g4 rfl) (hJ3 _ () h _ (join_imp 6 rfl rfl (mod_cons (j := 19) rfl hI mod_nil) k3)))))))
 exact oK 13 rfl rfl rfl g4 (v_move rfl) (oK 13 rfl rfl rfl g4 (v_fi rfl GMod.f4 fd26_4 rfl (z := a_m.nodes)) (oK 13 rfl rfl rfl g4 (v_loadI ty24 rfl) (oK 13 rfl rfl rfl g4 (v_ln (l := a_m.nodes) rfl hI sl24) (oK 13 rfl rfl rfl g4 (v_geq rfl rfl) (oV (v_pick_f rfl g4 rfl) (hJ3 _ () h _ (join_imp 6 rfl rfl (mod_cons (j := 19) rfl hI mod_nil) k3)))))))

theorem refs_walk_grp_w : ∀ n, refs_walk_C (refs_walk n)
 | 0 => fun h => (by cases h)
 | n + 1 => refs_walk_w0 (refs_walk_grp_w n)
theorem refs_walk_w (n : Nat) : refs_walk_C (refs_walk n) := (refs_walk_grp_w n)

theorem refs_refers_w : ∀ {a_m : GMod} {a_node : Int} {r : (List Str)}, refs_refers a_m a_node = some r → Ctr Tryz.prog 83 [isv (a_m), isv (a_node)] [] (fun R H => R = oneOf [isv (r)] ∧ H = []) := by
 intro a_m a_node r h
 unfold refs_refers at h
 refine spec_introD Tryz.func83 rfl fun w0 S0 hT => wsr (oT (t_boxIC (y := a_m) rfl hI (oA rfl (rnf (wsr (oT (t_alloc _ zt22_2 fun b1 => rl_upd (upd_tok) (rnf ?_))))))))
 refine w_seq (w_regionD (.v 0 (.v 1 (.v 2 (.v 3 (.v 4 (.v 6 (.t 5 (.t 7 .nil)))))))) moOrd (by kernel_rfl) ?_)
 refine rd_v rfl (v_loadI ty26 rfl) (rvm rfl rfl (rd_v rfl (v_fi rfl GMod.f4 fd26_4 rfl (z := a_m.nodes)) (rd_v rfl (v_loadI ty24 rfl) (rd_v rfl (v_ln (l := a_m.nodes) rfl hI sl24) (rd_v rfl (v_makeFunc (s1 rfl)) (asd_inv h fun q3 h => rd_t rfl rfl (t_makeVec el55 ze4 Tryz.underlying55 rfl rfl q3.1 rfl q3.2 fun v4 => cal_inv h fun y5 hy5 h => ?_)))))))
 refine rd_t rfl rfl (t_call (refs_walk_w fuel hy5) hT (.same rfl (.same rfl (.cons rfl (fun _ _ h => vecvE (by first | rfl | simp) _ _ h) (s1 rfl)))) (.cons .here (.cons tH k1)) (fun R H' hR => ?_))
 obtain ⟨t6, rfl, rfl⟩ := hR
 refine asd_inv h fun q7 h => rd_upd (upd_slot 11 rfl (vecvE q7.symm)) (rd_nil (fin_nxt (wsr (oT (t_loadC (R := appv t6 (y5.2)) ty22 rfl tH isvT1 (oA rfl (rnf (w_ret ?_))))))))
 cases h
 exact ret_post (.as rfl appv_isv .nil) .nil ⟨rfl, rfl⟩


theorem refs_Find_w : ∀ {a_m : GMod} {a_name : Str} {r : Int}, refs_Find a_m a_name = some r → Ctr Tryz.prog 60 [isv (a_m), isv (a_name)] [] (fun R H => R = oneOf [isv (r)] ∧ H = []) := by
 intro a_m a_name r h
 unfold refs_Find at h
 refine spec_introD Tryz.func60 rfl fun w0 S0 hT => wsr (oT (t_boxIC (y := a_m) rfl hI (oA rfl (rnf (wsr (oV (v_fi rfl GMod.f2 fd26_2 rfl (z := a_m.names)) (oV (v_loadI ty22 rfl) (oM rfl ?_))))))))
 refine cal_inv h fun y1 hy1 h => oT (t_callE (slices_Index_Lstring_string_w hy1) hT (s2 rfl rfl) .nil (oA rfl (rnf (w_ret ?_))))
 cases h
 exact ret_post (.tmp rfl .nil) .nil ⟨rfl, rfl⟩


theorem refs_Uses_w : ∀ {a_m : GMod} {a_node : Int} {r : (List Int)}, refs_Uses a_m a_node = some r → Ctr Tryz.prog 54 [isv (a_m), isv (a_node)] [] (fun R H => R = oneOf [isv (r)] ∧ H = []) := by
 intro a_m a_node r h
 unfold refs_Uses at h
 refine spec_introD Tryz.func54 rfl fun w0 S0 hT => wsr (oT (t_boxIC (y := a_m) rfl hI (oA rfl (rnf (wsr (oA rfl (rnf (w_seq ?_))))))))
 refine wsr (oV (v_loadI ty26 rfl) (oM rfl (cal_inv h fun y1 hy1 h => oT (t_callE (refs_refers_w hy1) hT (s2 rfl rfl) .nil (oV (v_ln (l := y1) rfl hI sl22) (oM rfl (rnf (w_block ?_))))))))
 refine w_upd (upd_tok) (w_lp (ι := (List Int) × Int) (γ := Tok) (fun q2 g2 => [(5, appv g2 (q2.1)), (13, isv (q2.2))]) (fun q2 g2 => [tokE g2]) h (none) (mod_cons (j := 5) rfl nilv_appv (mod_cons (j := 13) rfl hI mod_nil)) k1 (fun L3 q2 g2 Q22 h hL3 eL3 rL3 => wsr (oV (v_lss rfl rfl) (rnf (w_seq (w_condM h rfl (fun _ h => ?_) (fun _ h => ?_)))))))
 ·refine wkf (w_seq (w_J (ι := (List Int)) (γ := Tok) (fun q13 g13 => [(5, appv g13 (q13))]) (fun q13 g13 => [tokE g13]) k1 h (fun q13 g13 h => ?_) (fun J14 h hJ14 => ?_)))
  ·exact w_region (ck_inv h fun q20 h => oV (v_add rfl rfl q20) (oM rfl (rl_nil (hL3 _ (g13) h _ (join_imp 6 rfl rfl (mod_cons (j := 5) rfl hI (mod_cons (j := 13) rfl hI mod_nil)) k1)))))
  refine w_block (wsr (cal_inv h fun y15 hy15 h => oV (v_ix (l := y1) rfl hI rfl sl22 hy15) (oV (v_loadI ty9 rfl) (oA rfl (rnf (wsr (oV (v_loadI ty26 rfl) ?_)))))))
  refine oM rfl (cal_inv h fun y16 hy16 h => oT (t_callE (refs_Find_w hy16) hT (s2 rfl rfl) .nil (oA rfl (rnf (wsr (oM rfl (oV (v_geq rfl rfl) (rnf ?_))))))))
  refine w_condM h rfl (fun _ h => ?_) (fun _ h => ?_)
  ·refine w_region (oM rfl (oM rfl (oT (t_buildSlice (l := ([y16] : (List Int))) el23 (.cons rfl hI .nil) rfl rfl (asr_inv h fun q19 h => oT (t_appC (l := q2.1) (m := ([y16] : (List Int))) ap23_23 rfl hI rfl appv_isv .here q19 fun t18 => oA rfl (rl_nil (fin_block ?_))))))))
   exact hJ14 _ (t18) h _ (jk 14 5 rfl rfl rfl)
  exact w_skip (fin_block (hJ14 _ (g2) h _ (jk 9 5 rfl rfl rfl)))
 refine w_exit (exi_nxt (eL3 _ _ (exi_block (fin_nxt (wsr (oM rfl (oA rfl (rnf ?_))))))))
 refine w_ret ?_
 cases h
 exact ret_post (.as rfl appv_isv .nil) .nil ⟨rfl, rfl⟩


theorem refs_lost_c1_w : ∀ {a_s : Str} {a_a1 : GMod} {r : Bool}, refs_lost_c1 a_s a_a1 = some r → Ctr Tryz.prog 104 [isv (a_s), immv (a_a1)] [] (fun R H => R = oneOf [isv (r)] ∧ H = []) := by
 intro a_s a_a1 r h
 unfold refs_lost_c1 at h
 refine spec_introD Tryz.func104 rfl fun w0 S0 hT => wsr (oA rfl (rnf (wsr (oV (v_loadI ty26 rfl) (oM rfl (cal_inv h fun y1 hy1 h => oT (t_callE (refs_Find_w hy1) hT (s2 rfl rfl) .nil ?_)))))))
 refine oV (v_lss rfl rfl) (oA rfl (rnf (w_ret ?_)))
 cases h
 exact ret_post (.tmp rfl .nil) .nil ⟨rfl, rfl⟩


theorem slices_IndexFunc_Lstring_string_w : ∀ {a_s : (List Str)} {a_f_0 : GMod} {r : Int}, slices_IndexFunc_Lstring_string a_s a_f_0 = some r → Ctr Tryz.prog 122 [isv (a_s), clov 104 [immv (a_f_0)]] [] (fun R H => R = oneOf [isv (r)] ∧ H = []) := by
 intro a_s a_f_0 r h
 unfold slices_IndexFunc_Lstring_string at h
 refine spec_introD Tryz.func122 rfl fun w0 S0 hT => wsr (oA rfl (rnf (w_seq (wsr (oM rfl (oV (v_ln (l := a_s) rfl hI sl22) (oM rfl ?_)))))))
 refine rnf (w_block (w_lp (ι := Int) (γ := Unit) (fun q1 g1 => [(8, isv (q1))]) (fun q1 g1 => []) h () (mod_cons (j := 8) rfl hI mod_nil) .nil (fun L2 q1 g1 Q9 h hL2 eL2 rL2 => wsr (oV (v_lss rfl rfl) (rnf (w_seq (w_condM h rfl (fun _ h => ?_) (fun _ h => ?_))))))))
 ·refine wkf (w_seq (w_block (wsr (oM rfl (oA rfl (rnf (wsr (oM rfl ?_))))))))
  refine oM rfl (oM rfl (cal_inv h fun y6 hy6 h => oV (v_ix (l := a_s) rfl hI rfl sl22 hy6) (oV (v_loadI ty9 rfl) (cal_inv h fun y7 hy7 h => oT (t_callC rfl (s1 rfl) (refs_lost_c1_w hy7) hT .nil (fun R H' hR => ?_))))))
  obtain ⟨rfl, rfl⟩ := hR
  refine rnf (w_condM h rfl (fun _ h => ?_) (fun _ h => ?_))
  ·refine wsr (oM rfl (oA rfl (rnf (w_ret (ret_block (ret_nxt (rL2 _ (ret_block ?_))))))))
   refine ret_nxt ?_
   cases h
   exact ret_post (.tmp rfl .nil) .nil ⟨rfl, rfl⟩
  exact w_skip (fin_block (fin_nxt (w_region (ck_inv h fun q8 h => oV (v_add rfl rfl q8) (oM rfl (rl_nil (hL2 _ () h _ (ji 12 8 rfl rfl rfl))))))))
 refine w_exit (exi_nxt (eL2 _ _ (exi_block (fin_nxt (wsr (oA rfl (rnf (w_ret ?_))))))))
 cases h
 exact ret_post (.tmp rfl .nil) .nil ⟨rfl, rfl⟩


theorem slices_ContainsFunc_Lstring_string_w : ∀ {a_s : (List Str)} {a_f_0 : GMod} {r : Bool}, slices_ContainsFunc_Lstring_string a_s a_f_0 = some r → Ctr Tryz.prog 103 [isv (a_s), clov 104 [immv (a_f_0)]] [] (fun R H => R = oneOf [isv (r)] ∧ H = []) := by
 intro a_s a_f_0 r h
 unfold slices_ContainsFunc_Lstring_string at h
 refine spec_introD Tryz.func103 rfl fun w0 S0 hT => wsr (oA rfl (rnf (wsr (oM rfl (oM rfl (cal_inv h fun y1 hy1 h => oT (t_callE (slices_IndexFunc_Lstring_string_w hy1) hT (s2 rfl rfl) .nil ?_)))))))
 refine oV (v_geq rfl rfl) (oA rfl (rnf (w_ret ?_)))
 cases h
 exact ret_post (.tmp rfl .nil) .nil ⟨rfl, rfl⟩


theorem refs_lost_w : ∀ {a_m : GMod} {a_node : Int} {r : Bool}, refs_lost a_m a_node = some r → Ctr Tryz.prog 84 [isv (a_m), isv (a_node)] [] (fun R H => R = oneOf [isv (r)] ∧ H = []) := by
 intro a_m a_node r h
 unfold refs_lost at h
 refine spec_introD Tryz.func84 rfl fun w0 S0 hT => wsr (oT (t_boxIC (y := a_m) rfl hI (oA rfl (rnf (wsr (oV (v_loadI ty26 rfl) (oM rfl (cal_inv h fun y1 hy1 h => ?_))))))))
 refine oT (t_callE (refs_refers_w hy1) hT (s2 rfl rfl) .nil (oV (v_makeFunc (s1 rfl)) (cal_inv h fun y2 hy2 h => oT (t_callE (slices_ContainsFunc_Lstring_string_w hy2) hT (s2 rfl rfl) .nil (oA rfl (rnf (w_ret ?_)))))))
 cases h
 exact ret_post (.tmp rfl .nil) .nil ⟨rfl, rfl⟩


def refs_reaches_C (f' : (List (List Int)) → Int → (List Bool) → Option ((List Bool))) : Prop :=
 ∀ {a_uses : (List (List Int))} {a_at_ : Int} {a_seen : (List Bool)} {v_a_seen : Vt} {r : (List Bool)}, f' a_uses a_at_ a_seen = some r → Ctr Tryz.prog 85 [isv (a_uses), isv (a_at_), vecv v_a_seen (a_seen.length)] [vecE v_a_seen (a_seen : List Bool)] (fun R H => R = oneOf [] ∧ H = [vecE v_a_seen (r)])
theorem refs_reaches_w0 {refs_reaches' : (List (List Int)) → Int → (List Bool) → Option ((List Bool))} (h_refs_reaches : refs_reaches_C refs_reaches') : ∀ {a_uses : (List (List Int))} {a_at_ : Int} {a_seen : (List Bool)} {v_a_seen : Vt} {r : (List Bool)}, refs_reaches_F refs_reaches' a_uses a_at_ a_seen = some r → Ctr Tryz.prog 85 [isv (a_uses), isv (a_at_), vecv v_a_seen (a_seen.length)] [vecE v_a_seen (a_seen : List Bool)] (fun R H => R = oneOf [] ∧ H = [vecE v_a_seen (r)]) := by
 intro a_uses a_at_ a_seen v_a_seen r h
 unfold refs_reaches_F at h
 refine spec_introD Tryz.func85 rfl fun w0 S0 hT => wsr (oM rfl (oM rfl (cal_inv h fun y1 hy1 h => oV (v_ix (l := a_uses) rfl hI rfl sl124 hy1) (oV (v_loadI ty23 rfl) (oV (v_ln (l := y1) rfl hI sl23) (oM rfl ?_))))))
 refine rnf (w_block (w_lp (ι := (List Bool) × Int) (γ := Unit) (fun q2 g2 => [(13, isv (q2.2)), (2, vecv v_a_seen (q2.1.length))]) (fun q2 g2 => [vecE v_a_seen (q2.1 : List Bool)]) h () (mod_cons (j := 13) rfl hI (mod_cons (j := 2) rfl (vecvE (by first | rfl | simp)) mod_nil)) k1 (fun L3 q2 g2 Q24 h hL3 eL3 rL3 => ?_)))
 refine wsr (oV (v_lss rfl rfl) (rnf (w_seq (w_condM h rfl (fun _ h => ?_) (fun _ h => ?_)))))
 ·refine wkf (w_seq (w_J (ι := (List Bool)) (γ := Unit) (fun q14 g14 => [(2, vecv v_a_seen (q14.length))]) (fun q14 g14 => [vecE v_a_seen (q14 : List Bool)]) k1 h (fun q14 g14 h => ?_) (fun J15 h hJ15 => ?_)))
  ·exact w_region (ck_inv h fun q23 h => oV (v_add rfl rfl q23) (oM rfl (rl_nil (hL3 _ () h _ (join_imp 6 rfl rfl (mod_cons (j := 13) rfl hI (mod_cons (j := 2) rfl (vecvE (by first | rfl | simp)) mod_nil)) k1)))))
  refine w_block (wsr (cal_inv h fun y16 hy16 h => oV (v_ix (l := y1) rfl hI rfl sl23 hy16) (oV (v_loadI ty3 rfl) (oA rfl (rnf (wsr (oM rfl ?_)))))))
  refine oM rfl (asd_inv h fun q17 h => oV (v_vidx (α := Bool) sl55 rfl rfl q17.1 q17.2) (cal_inv h fun y18 hy18 h => oT (t_vload ty4 rfl .here hy18 ?_)))
  refine oV (v_not rfl) (rnf (w_condM h rfl (fun _ h => ?_) (fun _ h => ?_)))
  ·refine wsr (oM rfl (oM rfl (asd_inv h fun q19 h => oV (v_vidx (α := Bool) sl55 rfl rfl q19.1 q19.2) (cal_inv h fun y20 hy20 h => oT (t_vstore ty4 rfl rfl .here hy20 (rnf (w_region ?_)))))))
   refine oM rfl (oM rfl (oM rfl (cal_inv h fun y21 hy21 h => oT (t_callE (h_refs_reaches hy21) hT (.same rfl (.same rfl (.cons rfl (fun _ _ h => vecvE (by first | rfl | simp) _ _ h) .nil))) k1 ?_))))
   exact asd_inv h fun q22 h => rl_upd (upd_slot 2 rfl (vecvE q22.symm)) (rl_upd (upd_slot 17 rfl (vecvE q22.symm)) (rl_upd (upd_slot 22 rfl (vecvE q22.symm)) (rl_upd (upd_slot 27 rfl (vecvE q22.symm)) (rl_nil (fin_block (hJ15 _ () h _ (join_imp 19 rfl rfl (mod_cons (j := 2) rfl (vecvE (by first | rfl | simp)) mod_nil) k1)))))))
  exact w_skip (fin_block (hJ15 _ () h _ (join_imp 8 rfl rfl (mod_cons (j := 2) rfl (vecvE (by first | rfl | simp)) mod_nil) k1)))
 refine w_exit (exi_nxt (eL3 _ _ (exi_block (fin_post .nil k1 ?_))))
 cases h
 exact ⟨rfl, rfl⟩

theorem refs_reaches_grp_w : ∀ n, refs_reaches_C (refs_reaches n)
 | 0 => fun h => (by cases h)
 | n + 1 => refs_reaches_w0 (refs_reaches_grp_w n)
theorem refs_reaches_w (n : Nat) : refs_reaches_C (refs_reaches n) := (refs_reaches_grp_w n)

theorem refs_wrong_w : ∀ {a_m : GMod} {a_uses : (List (List Int))} {r : Int × Int}, refs_wrong a_m a_uses = some r → Ctr Tryz.prog 56 [isv (a_m), isv (a_uses)] [] (fun R H => R = oneOf [isv (r.1), isv (r.2)] ∧ H = []) := by
 intro a_m a_uses r h
 unfold refs_wrong at h
 refine spec_introD Tryz.func56 rfl fun w0 S0 hT => wsr (oT (t_boxIC (y := a_m) rfl hI (oA rfl (oA rfl (rnf (w_seq (wsr (oV (v_fi rfl GMod.f2 fd26_2 rfl (z := a_m.names)) ?_))))))))
 refine oV (v_loadI ty22 rfl) (oV (v_ln (l := a_m.names) rfl hI sl22) (oM rfl (rnf (w_block (w_lp (ι := Int) (γ := Unit) (fun q1 g1 => [(14, isv (q1))]) (fun q1 g1 => []) h () (mod_cons (j := 14) rfl hI mod_nil) .nil (fun L2 q1 g1 Q95 h hL2 eL2 rL2 => wsr (oV (v_lss rfl rfl) (rnf ?_))))))))
 refine w_seq (w_condM h rfl (fun _ h => ?_) (fun _ h => ?_))
 ·refine wkf (w_seq (w_block (wsr (oM rfl (cal_inv h fun y49 hy49 h => oV (v_ix (l := a_m.names) rfl hI rfl sl22 hy49) (oV (v_loadI ty9 rfl) (oA rfl ?_)))))))
  refine oA rfl (rnf (wsr (oV (v_loadI ty26 rfl) (oM rfl (cal_inv h fun y50 hy50 h => oT (t_callE (refs_Find_w hy50) hT (s2 rfl rfl) .nil (oM rfl (oV (v_lss rfl rfl) ?_))))))))
  refine rnf (w_condM h rfl (fun _ h => ?_) (fun _ h => ?_))
  ·refine wsr (oM rfl (oA rfl (oA rfl (rnf (w_ret (ret_block (ret_nxt (rL2 _ ?_))))))))
   refine ret_block (ret_nxt ?_)
   cases h
   exact ret_post (.tmp rfl (.tmp rfl .nil)) .nil ⟨rfl, rfl⟩
  exact w_skip (fin_block (fin_nxt (w_region (ck_inv h fun q51 h => oV (v_add rfl rfl q51) (oM rfl (rl_nil (hL2 _ () h _ (ji 14 14 rfl rfl rfl))))))))
 refine w_exit (exi_nxt (eL2 _ _ (exi_block (fin_nxt (w_seq (wsr (oV (v_fi rfl GMod.f2 fd26_2 rfl (z := a_m.names)) (oV (v_loadI ty22 rfl) ?_))))))))
 refine oV (v_ln (l := a_m.names) rfl hI sl22) (oM rfl (rnf (w_block (w_lp (ι := Int) (γ := Unit) (fun q52 g52 => [(29, isv (q52))]) (fun q52 g52 => []) h () (mod_cons (j := 29) rfl hI mod_nil) .nil (fun L53 q52 g52 Q94 h hL53 eL53 rL53 => wsr (oV (v_lss rfl rfl) (rnf (w_seq ?_))))))))
 refine w_condM h rfl (fun _ h => ?_) (fun _ h => ?_)
 ·refine wkf (w_seq (w_block (wsr (oM rfl (oA rfl (rnf (w_seq (w_regionD (.v 0 (.v 1 (.v 2 (.t 3 (.t 4 .nil))))) moOrd (by kernel_rfl) ?_))))))))
  refine rd_v rfl (v_loadI ty26 rfl) (rd_v rfl (v_loadI ty26 rfl) (rvm rfl rfl (cal_inv h fun y74 hy74 h => rd_t rfl rfl (t_callE (refs_of_w hy74) hT (s2 rfl rfl) .nil (cal_inv h fun y75 hy75 h => rd_t rfl rfl (t_callE (refs_lost_w hy75) hT (s2 rfl rfl) .nil (rd_nil (fin_nxt ?_))))))))
  refine w_condM h rfl (fun _ h => ?_) (fun _ h => ?_)
  ·refine wsr (oM rfl (oA rfl (oA rfl (rnf (w_ret (ret_block (ret_nxt (rL53 _ ?_))))))))
   refine ret_block (ret_nxt ?_)
   cases h
   exact ret_post (.tmp rfl (.tmp rfl .nil)) .nil ⟨rfl, rfl⟩
  exact w_skip (fin_block (fin_nxt (w_region (ck_inv h fun q76 h => oV (v_add rfl rfl q76) (oM rfl (rl_nil (hL53 _ () h _ (ji 11 29 rfl rfl rfl))))))))
 refine w_exit (exi_nxt (eL53 _ _ (exi_block (fin_nxt (w_seq (wsr (oV (v_fi rfl GMod.f2 fd26_2 rfl (z := a_m.names)) (oV (v_loadI ty22 rfl) ?_))))))))
 refine oV (v_ln (l := a_m.names) rfl hI sl22) (oM rfl (rnf (w_block (w_lp (ι := Int) (γ := Unit) (fun q77 g77 => [(42, isv (q77))]) (fun q77 g77 => []) h () (mod_cons (j := 42) rfl hI mod_nil) .nil (fun L78 q77 g77 Q93 h hL78 eL78 rL78 => wsr (oV (v_lss rfl rfl) (rnf (w_seq ?_))))))))
 refine w_condM h rfl (fun _ h => ?_) (fun _ h => ?_)
 ·refine wkf (w_seq (w_block (wsr (oM rfl (oA rfl (rnf (wsr (oV (v_fi rfl GMod.f2 fd26_2 rfl (z := a_m.names)) ?_))))))))
  refine oV (v_loadI ty22 rfl) (oV (v_ln (l := a_m.names) rfl hI sl22) (asd_inv h fun q86 h => oT (t_makeVec el55 ze4 Tryz.underlying55 rfl rfl q86.1 rfl q86.2 fun v87 => oA rfl (rnf (wsr (oM rfl (oM rfl ?_)))))))
  refine oM rfl (cal_inv h fun y88 hy88 h => oT (t_callE (refs_reaches_w fuel hy88) hT (.same rfl (.same rfl (.cons rfl (fun _ _ h => vecvE (by first | rfl | simp) _ _ h) .nil))) k1 ?_))
  refine asd_inv h fun q89 h => rl_upd (upd_slot 48 rfl (vecvE q89.symm)) (rl_upd (upd_slot 10 rfl (vecvE q89.symm)) (rl_upd (upd_slot 51 rfl (vecvE q89.symm)) (rnf (wsr (oM rfl (oM rfl (asd_inv h fun q90 h => ?_)))))))
  refine oV (v_vidx (α := Bool) sl55 rfl rfl q90.1 q90.2) (cal_inv h fun y91 hy91 h => oT (t_vload ty4 rfl .here hy91 ?_))
  refine rnf (w_condM h rfl (fun _ h => ?_) (fun _ h => ?_))
  ·refine wsr (oM rfl (oA rfl (oA rfl (rnf (w_ret (ret_block (ret_nxt (rL78 _ ?_))))))))
   refine ret_block (ret_nxt ?_)
   cases h
   exact ret_post (.tmp rfl (.tmp rfl .nil)) .nil ⟨rfl, rfl⟩
  exact w_skip (fin_block (fin_nxt (w_region (ck_inv h fun q92 h => oV (v_add rfl rfl q92) (oM rfl (rl_nil (hL78 _ () h _ (ji 22 42 rfl rfl rfl))))))))
 refine w_exit (exi_nxt (eL78 _ _ (exi_block (fin_nxt (wsr (oA rfl (oA rfl (rnf ?_))))))))
 refine w_ret ?_
 cases h
 exact ret_post (.tmp rfl (.tmp rfl .nil)) .nil ⟨rfl, rfl⟩


theorem slices_Index_Lint_int_w : ∀ {a_s : (List Int)} {a_v : Int} {r : Int}, slices_Index_Lint_int a_s a_v = some r → Ctr Tryz.prog 86 [isv (a_s), isv (a_v)] [] (fun R H => R = oneOf [isv (r)] ∧ H = []) := by
 intro a_s a_v r h
 unfold slices_Index_Lint_int at h
 refine spec_introD Tryz.func86 rfl fun w0 S0 hT => wsr (oA rfl (rnf (w_seq (wsr (oM rfl (oV (v_ln (l := a_s) rfl hI sl23) (oM rfl ?_)))))))
 refine rnf (w_block (w_lp (ι := Int) (γ := Unit) (fun q1 g1 => [(8, isv (q1))]) (fun q1 g1 => []) h () (mod_cons (j := 8) rfl hI mod_nil) .nil (fun L2 q1 g1 Q7 h hL2 eL2 rL2 => wsr (oV (v_lss rfl rfl) (rnf (w_seq (w_condM h rfl (fun _ h => ?_) (fun _ h => ?_))))))))
 ·refine wkf (w_seq (w_block (wsr (oM rfl (oA rfl (rnf (wsr (oM rfl ?_))))))))
  refine oM rfl (oM rfl (cal_inv h fun y5 hy5 h => oV (v_ix (l := a_s) rfl hI rfl sl23 hy5) (oV (v_loadI ty3 rfl) (oV (v_eql rfl rfl) (rnf (w_condM h rfl (fun _ h => ?_) (fun _ h => ?_)))))))
  ·refine wsr (oM rfl (oA rfl (rnf (w_ret (ret_block (ret_nxt (rL2 _ (ret_block ?_))))))))
   refine ret_nxt ?_
   cases h
   exact ret_post (.tmp rfl .nil) .nil ⟨rfl, rfl⟩
  exact w_skip (fin_block (fin_nxt (w_region (ck_inv h fun q6 h => oV (v_add rfl rfl q6) (oM rfl (rl_nil (hL2 _ () h _ (ji 12 8 rfl rfl rfl))))))))
 refine w_exit (exi_nxt (eL2 _ _ (exi_block (fin_nxt (wsr (oA rfl (rnf (w_ret ?_))))))))
 cases h
 exact ret_post (.tmp rfl .nil) .nil ⟨rfl, rfl⟩


theorem slices_Contains_Lint_int_w : ∀ {a_s : (List Int)} {a_v : Int} {r : Bool}, slices_Contains_Lint_int a_s a_v = some r → Ctr Tryz.prog 57 [isv (a_s), isv (a_v)] [] (fun R H => R = oneOf [isv (r)] ∧ H = []) := by
 intro a_s a_v r h
 unfold slices_Contains_Lint_int at h
 refine spec_introD Tryz.func57 rfl fun w0 S0 hT => wsr (oA rfl (rnf (wsr (oM rfl (oM rfl (cal_inv h fun y1 hy1 h => oT (t_callE (slices_Index_Lint_int_w hy1) hT (s2 rfl rfl) .nil ?_)))))))
 refine oV (v_geq rfl rfl) (oA rfl (rnf (w_ret ?_)))
 cases h
 exact ret_post (.tmp rfl .nil) .nil ⟨rfl, rfl⟩


theorem refs_Order_c1_w : ∀ {a_k : Int} {a_a1 : (List Int)} {b_a_a1 : Nat} {t_a_a11 : Tok} {r : Bool × (List Int)}, refs_Order_c1 a_k a_a1 = some r → Ctr Tryz.prog 59 [isv (a_k), ptrv b_a_a1 (Fld.id (TList Int))] [boxE b_a_a1 ((TList.mk t_a_a11 a_a1) : (TList Int)), tokE t_a_a11] (fun R H => ∃ u1 : Tok, R = oneOf [isv (r.1)] ∧ H = [boxE b_a_a1 ((TList.mk u1 r.2)), tokE u1]) := by
 intro a_k a_a1 b_a_a1 t_a_a11 r h
 unfold refs_Order_c1 at h
 refine spec_introD Tryz.func59 rfl fun w0 S0 hT => wsr (oA rfl (rnf (wsr (oT (t_loadC (R := appv t_a_a11 (a_a1)) ty23 rfl .here isvT1 (oM rfl (cal_inv h fun y2 hy2 h => oT (t_callE (slices_Contains_Lint_int_w hy2) hT (.cons rfl appv_isv (s1 rfl)) .nil ?_))))))))
 refine oV (v_not rfl) (oA rfl (rnf (w_ret (ret_post (.tmp rfl .nil) k2 ?_))))
 cases h
 exact ⟨t_a_a11, rfl, rfl⟩


theorem slices_IndexFunc_Lint_int_w : ∀ {a_s : (List Int)} {a_f_0 : (List Int)} {b_a_f_0 : Nat} {t_a_f_01 : Tok} {r : Int × (List Int)}, slices_IndexFunc_Lint_int a_s a_f_0 = some r → Ctr Tryz.prog 87 [isv (a_s), clov 59 [ptrv b_a_f_0 (Fld.id (TList Int))]] [boxE b_a_f_0 ((TList.mk t_a_f_01 a_f_0) : (TList Int)), tokE t_a_f_01] (fun R H => ∃ u1 : Tok, R = oneOf [isv (r.1)] ∧ H = [boxE b_a_f_0 ((TList.mk u1 r.2)), tokE u1]) := by
 intro a_s a_f_0 b_a_f_0 t_a_f_01 r h
 unfold slices_IndexFunc_Lint_int at h
 refine spec_introD Tryz.func87 rfl fun w0 S0 hT => wsr (oA rfl (rnf (w_seq (wsr (oM rfl (oV (v_ln (l := a_s) rfl hI sl23) (oM rfl ?_)))))))
 refine rnf (w_block (w_lp (ι := Int × (List Int)) (γ := Tok) (fun q2 g2 => [(8, isv (q2.1))]) (fun q2 g2 => [boxE b_a_f_0 ((TList.mk g2 q2.2) : (TList Int)), tokE g2]) h (t_a_f_01) (mod_cons (j := 8) rfl hI mod_nil) k2 (fun L3 q2 g2 Q12 h hL3 eL3 rL3 => wsr (oV (v_lss rfl rfl) (rnf (w_seq (w_condM h rfl (fun _ h => ?_) (fun _ h => ?_))))))))
 ·refine wkf (w_seq (w_block (wsr (oM rfl (oA rfl (rnf (wsr (oM rfl ?_))))))))
  refine oM rfl (oM rfl (cal_inv h fun y8 hy8 h => oV (v_ix (l := a_s) rfl hI rfl sl23 hy8) (oV (v_loadI ty3 rfl) (cal_inv h fun y9 hy9 h => oT (t_callC rfl (s1 rfl) (refs_Order_c1_w hy9) hT k2 (fun R H' hR => ?_))))))
  obtain ⟨t10, rfl, rfl⟩ := hR
  refine rnf (w_condM h rfl (fun _ h => ?_) (fun _ h => ?_))
  ·refine wsr (oM rfl (oA rfl (rnf (w_ret (ret_block (ret_nxt (rL3 _ (ret_block ?_))))))))
   refine ret_nxt (ret_post (.tmp rfl .nil) k2 ?_)
   cases h
   exact ⟨t10, rfl, rfl⟩
  exact w_skip (fin_block (fin_nxt (w_region (ck_inv h fun q11 h => oV (v_add rfl rfl q11) (oM rfl (rl_nil (hL3 _ (t10) h _ (join_imp 12 rfl rfl (mod_cons (j := 8) rfl hI mod_nil) k2))))))))
 refine w_exit (exi_nxt (eL3 _ _ (exi_block (fin_nxt (wsr (oA rfl (rnf (w_ret ?_))))))))
 refine ret_post (.tmp rfl .nil) k2 ?_
 cases h
 exact ⟨g2, rfl, rfl⟩


theorem slices_ContainsFunc_Lint_int_w : ∀ {a_s : (List Int)} {a_f_0 : (List Int)} {b_a_f_0 : Nat} {t_a_f_01 : Tok} {r : Bool × (List Int)}, slices_ContainsFunc_Lint_int a_s a_f_0 = some r → Ctr Tryz.prog 58 [isv (a_s), clov 59 [ptrv b_a_f_0 (Fld.id (TList Int))]] [boxE b_a_f_0 ((TList.mk t_a_f_01 a_f_0) : (TList Int)), tokE t_a_f_01] (fun R H => ∃ u1 : Tok, R = oneOf [isv (r.1)] ∧ H = [boxE b_a_f_0 ((TList.mk u1 r.2)), tokE u1]) := by
 intro a_s a_f_0 b_a_f_0 t_a_f_01 r h
 unfold slices_ContainsFunc_Lint_int at h
 refine spec_introD Tryz.func58 rfl fun w0 S0 hT => wsr (oA rfl (rnf (wsr (oM rfl (oM rfl (cal_inv h fun y2 hy2 h => oT (t_call (slices_IndexFunc_Lint_int_w hy2) hT (s2 rfl rfl) k2 (fun R H' hR => ?_))))))))
 obtain ⟨t3, rfl, rfl⟩ := hR
 refine oV (v_geq rfl rfl) (oA rfl (rnf (w_ret (ret_post (.tmp rfl .nil) k2 ?_))))
 cases h
 exact ⟨t3, rfl, rfl⟩


theorem refs_Order_w : ∀ {a_m : GMod} {r : (List Int) × Int × Int}, refs_Order a_m = some r → Ctr Tryz.prog 34 [isv (a_m)] [] (fun R H => R = oneOf [isv (r.1), isv (r.2.1), isv (r.2.2)] ∧ H = []) := by
 intro a_m r h
 unfold refs_Order at h
 refine spec_introD Tryz.func34 rfl fun w0 S0 hT => wsr (oT (t_boxIC (y := a_m) rfl hI (oA rfl (oA rfl (oA rfl (rnf (wsr (oA rfl ?_))))))))
 refine rnf (w_seq (wsr (oV (v_fi rfl GMod.f2 fd26_2 rfl (z := a_m.names)) (oV (v_loadI ty22 rfl) (oV (v_ln (l := a_m.names) rfl hI sl22) (oM rfl (rnf (w_block ?_))))))))
 refine w_upd (upd_tok) (w_lp (ι := (List (List Int)) × Int) (γ := Tok) (fun q1 g1 => [(5, appv g1 (q1.1)), (14, isv (q1.2))]) (fun q1 g1 => [tokE g1]) h (none) (mod_cons (j := 5) rfl nilv_appv (mod_cons (j := 14) rfl hI mod_nil)) k1 (fun L2 q1 g1 Q128 h hL2 eL2 rL2 => wsr (oV (v_lss rfl rfl) (rnf (w_seq (w_condM h rfl (fun _ h => ?_) (fun _ h => ?_)))))))
 ·refine wkf (w_seq (w_block (wsr (oM rfl (oA rfl (rnf (w_regionD (.v 0 (.v 1 (.v 2 (.v 3 (.t 4 (.t 5 (.t 6 (.t 7 (.v 8 .nil))))))))) moOrd (by kernel_rfl) ?_)))))))
  refine rvm rfl rfl (rd_v rfl (v_loadI ty26 rfl) (rd_v rfl (v_loadI ty26 rfl) (rvm rfl rfl (cal_inv h fun y65 hy65 h => rd_t rfl rfl (t_callE (refs_of_w hy65) hT (s2 rfl rfl) .nil (cal_inv h fun y66 hy66 h => rd_t rfl rfl (t_callE (refs_Uses_w hy66) hT (s2 rfl rfl) .nil (rd_t rfl rfl (t_buildSlice (l := ([y66] : (List (List Int)))) el124 (.cons rfl hI .nil) rfl rfl ?_)))))))))
  refine asr_inv h fun q69 h => rd_t rfl rfl (t_appC (l := q1.1) (m := ([y66] : (List (List Int)))) ap124_124 rfl hI rfl appv_isv .here q69 fun t68 => rd_v rfl (v_assign rfl) (rd_nil (fin_block (fin_nxt (w_region (ck_inv h fun q70 h => oV (v_add rfl rfl q70) ?_))))))
  exact oM rfl (rl_nil (hL2 _ (t68) h _ (join_imp 16 rfl rfl (mod_cons (j := 5) rfl hI (mod_cons (j := 14) rfl hI mod_nil)) k1)))
 refine w_exit (exi_nxt (eL2 _ _ (exi_block (fin_nxt (w_seq (wsr (oV (v_loadI ty26 rfl) (oM rfl ?_))))))))
 refine cal_inv h fun y71 hy71 h => oT (t_callE (refs_wrong_w hy71) hT (.same rfl (.cons rfl appv_isv .nil)) .nil (oM rfl (oV (v_extract rfl rfl) (oV (v_extract rfl rfl) (oA rfl (oA rfl (rnf (wsr ?_))))))))
 refine oM rfl (oV (v_neq rfl rfl) (rnf (w_condM h rfl (fun _ h => ?_) (fun _ h => ?_))))
 ·refine wsr (oM rfl (oM rfl (oA rfl (oA rfl (oA rfl (rnf (w_ret (ret_nxt ?_))))))))
  cases h
  exact ret_post (.as rfl (nilv_isv (α := Int)) (.tmp rfl (.tmp rfl .nil))) .nil ⟨rfl, rfl⟩
 refine wkf (wsr (oT (t_alloc _ zt23_3 fun b72 => rl_upd (upd_tok) (rnf (w_seq (w_block (w_lp (ι := (List Int)) (γ := Tok) (fun q74 g74 => []) (fun q74 g74 => [boxE b72 ((TList.mk g74 q74) : (TList Int)), tokE g74]) h (none) mod_nil (.cons tH k1) (fun L75 q74 g74 Q126 h hL75 eL75 rL75 => w_seq ?_))))))))
 refine wsr (oT (t_loadC (R := appv g74 (q74)) ty23 rfl .here isvT1 (oV (v_ln (l := q74) rfl appv_isv sl23) (oV (v_fi rfl GMod.f2 fd26_2 rfl (z := a_m.names)) (oV (v_loadI ty22 rfl) (oV (v_ln (l := a_m.names) rfl hI sl22) (oV (v_lss rfl rfl) (rnf (w_condM h rfl (fun _ h => ?_) (fun _ h => ?_))))))))))
 ·refine wkf (w_block (wsr (oV (v_fi rfl GMod.f2 fd26_2 rfl (z := a_m.names)) (oV (v_loadI ty22 rfl) (oV (v_ln (l := a_m.names) rfl hI sl22) (oM rfl (rnf (w_block ?_))))))))
  refine w_lp (ι := Int × (List Int)) (γ := Tok) (fun q101 g101 => [(45, isv (q101.1))]) (fun q101 g101 => [boxE b72 ((TList.mk g101 q101.2) : (TList Int)), tokE g101]) h (g74) (mod_cons (j := 45) rfl hI mod_nil) k2 (fun L102 q101 g101 Q125 h hL102 eL102 rL102 => wsr (oV (v_lss rfl rfl) (rnf (w_seq (w_condM h rfl (fun _ h => ?_) (fun _ h => ?_))))))
  ·refine wkf (w_seq (w_block (wsr (oM rfl (oA rfl (rnf (wsr (oT (t_loadC (R := appv g101 (q101.2)) ty23 rfl .here isvT1 ?_)))))))))
   refine oM rfl (cal_inv h fun y114 hy114 h => oT (t_callE (slices_Contains_Lint_int_w hy114) hT (.cons rfl appv_isv (s1 rfl)) .nil (oV (v_not rfl) (oM rfl (rl_j (ι := Bool × (List Int)) (γ := Tok) (fun q115 g115 => [(60, isv (q115.1))]) (fun q115 g115 => [boxE b72 ((TList.mk g115 q115.2) : (TList Int)), tokE g115]) k2 h 8 rfl (fun q115 g115 h => ?_) (fun J116 h hJ116 => ?_))))))
   ·refine rnf (w_condM h rfl (fun _ h => ?_) (fun _ h => ?_))
    ·refine wsr (oT (t_loadC (R := appv g115 (q115.2)) ty23 rfl .here isvT1 (oM rfl (oT (t_buildSlice (l := ([q101.1] : (List Int))) el23 (.cons rfl hI .nil) rfl rfl (asr_inv h fun q123 h => oT (t_appC (l := q115.2) (m := ([q101.1] : (List Int))) ap23_23 rfl hI rfl appv_isv tH q123 fun t122 => oT (t_storeC (y' := ((TList.mk t122 (q115.2 ++ ([q101.1] : (List Int)))) : (TList Int))) ty23 rfl rfl isvT2 tH rfl (rnf (w_exit ?_))))))))))
     exact exi_pass rfl (exi_nxt (eL102 _ _ (exi_block (fin_block (hL75 _ (t122) h _ (join_imp 24 rfl rfl mod_nil k3))))))
    exact w_skip (fin_block (fin_nxt (w_region (ck_inv h fun q124 h => oV (v_add rfl rfl q124) (oM rfl (rl_nil (hL102 _ (g115) h _ (join_imp 12 rfl rfl (mod_cons (j := 45) rfl hI mod_nil) k3))))))))
   refine rl_condM (j := 52) h rfl (fun g117 h => ?_) (fun g117 h => ?_)
   ·refine oK 52 rfl rfl rfl g117 (v_move rfl) (oK 52 rfl rfl rfl g117 (v_move rfl) (cal_inv h fun y118 hy118 h => oK 52 rfl rfl rfl g117 (v_ix (l := q1.1) rfl appv_isv rfl sl124 hy118) (oK 52 rfl rfl rfl g117 (v_loadI ty23 rfl) (oK 52 rfl rfl rfl g117 (v_makeFunc (s1 rfl)) (cal_inv h fun y119 hy119 h => op_take rfl rfl (dj := 52) rfl g117 (t_call (slices_ContainsFunc_Lint_int_w hy119) hT (s2 rfl rfl) k2 (fun R H' hR => ?_)))))))
    obtain ⟨t120, rfl, rfl⟩ := hR
    exact oK 52 rfl rfl rfl g117 (v_not rfl) (oV (v_pick_t rfl g117 rfl) (hJ116 _ (t120) h _ (join_imp 8 rfl rfl (mod_cons (j := 60) rfl hI mod_nil) k3)))
   exact oP 52 rfl rfl g117 (oP 52 rfl rfl g117 (oP 52 rfl rfl g117 (oP 52 rfl rfl g117 (oP 52 rfl rfl g117 (oP 52 rfl rfl g117 (oP 52 rfl rfl g117 (oV (v_pick_f rfl g117 rfl) (hJ116 _ (g101) h _ (join_imp 8 rfl rfl (mod_cons (j := 60) rfl hI mod_nil) k3)))))))))
  exact w_exit (exi_nxt (eL102 _ _ (exi_block (fin_block (hL75 _ (g101) h _ (join_imp 12 rfl rfl mod_nil k3))))))
 refine w_exit (exi_nxt (eL75 _ _ (exi_block (fin_nxt (wsr (oT (t_loadC (R := appv g74 (q74)) ty23 rfl .here isvT1 (oA rfl (oA rfl ?_)))))))))
 refine oA rfl (rnf (w_ret ?_))
 cases h
 exact ret_post (.as rfl appv_isv (.tmp rfl (.tmp rfl .nil))) .nil ⟨rfl, rfl⟩


theorem slices_Clone_Lstring_string_w : ∀ {a_s : (List Str)} {r : (List Str)}, slices_Clone_Lstring_string a_s = some r → Ctr Tryz.prog 35 [isv (a_s)] [] (fun R H => R = oneOf [isv (r)] ∧ H = []) := by
 intro a_s r h
 unfold slices_Clone_Lstring_string at h
 refine spec_introD Tryz.func35 rfl fun w0 S0 hT => wsr (oA rfl (rnf (w_seq (wsr (oM rfl (oV (v_eqnil (l := a_s) sl22 rfl rfl) (rnf ?_)))))))
 refine w_condQ h rfl (fun hn => by rw [hn]; rfl) (fun _ h => ?_) (fun h => ?_)
 ·refine wsr (oA rfl (rnf (w_ret (ret_nxt ?_))))
  cases h
  exact ret_post (.as rfl (nilv_isv (α := Str)) .nil) .nil ⟨rfl, rfl⟩
 refine wkf (wsr (oT (t_buildSlice (l := ([] : (List Str))) el22 .nil rfl rfl (oM rfl (rl_upd (upd_tok) (asr_inv h fun q3 h => oT (t_appC (l := ([] : (List Str))) (m := a_s) ap22_22 rfl hI rfl hI .here q3 fun t2 => oA rfl (rnf ?_))))))))
 refine w_ret ?_
 cases h
 exact ret_post (.as rfl appv_isv .nil) .nil ⟨rfl, rfl⟩


theorem tags_Universal_w : ∀ {a_kind : Int} {r : Tag}, tags_Universal a_kind = some r → Ctr Tryz.prog 88 [isv (a_kind)] [] (fun R H => R = oneOf [isv (r)] ∧ H = []) := by
 intro a_kind r h
 unfold tags_Universal at h
 refine spec_introD Tryz.func88 rfl fun w0 S0 hT => wsr (oT (t_alloc _ ze66 fun b1 => rnf (wsr (oA rfl (rnf (w_seq (wsr ?_)))))))
 refine oM rfl (rnf (w_J (ι := Int) (γ := Unit) (fun q2 g2 => [(3, isv (q2))]) (fun q2 g2 => []) .nil h (fun q2 g2 h => ?_) (fun J3 h hJ3 => ?_)))
 ·refine wsr (oM rfl (oV (v_build (z := (Tag.mk (0 : Int) q2)) rfl bu66 ze66 (.cons Tag.f0 fd66_0 rfl hI (.cons Tag.f1 fd66_1 rfl hI .nil))) (oT (t_storeC (y' := ((Tag.mk (0 : Int) q2) : Tag)) ty66 rfl rfl hI .here rfl (rnf (w_ret ?_))))))
  cases h
  exact ret_post (.cell rfl .here ty66 .nil) .nil ⟨rfl, rfl⟩
 refine w_block (wsr (oV (v_eql rfl rfl) (oA rfl (rnf (w_condM h rfl (fun _ h => ?_) (fun _ h => ?_))))))
 ·exact w_region (oA rfl (rl_nil (fin_block (hJ3 _ () h _ (jk 3 3 rfl rfl rfl)))))
 refine wsr (oV (v_eql rfl rfl) (oA rfl (rnf (w_condM h rfl (fun _ h => ?_) (fun _ h => ?_)))))
 ·exact w_region (oA rfl (rl_nil (fin_block (hJ3 _ () h _ (jk 5 3 rfl rfl rfl)))))
 refine wsr (oV (v_eql rfl rfl) (oA rfl (rnf (w_condM h rfl (fun _ h => ?_) (fun _ h => ?_)))))
 ·exact w_region (oA rfl (rl_nil (fin_block (hJ3 _ () h _ (jk 7 3 rfl rfl rfl)))))
 refine wsr (oV (v_eql rfl rfl) (oA rfl (rnf (w_condM h rfl (fun _ h => ?_) (fun _ h => ?_)))))
 ·exact w_region (oA rfl (rl_nil (fin_block (hJ3 _ () h _ (jk 9 3 rfl rfl rfl)))))
 refine wsr (oV (v_eql rfl rfl) (oA rfl (rnf (w_condM h rfl (fun _ h => ?_) (fun _ h => ?_)))))
 ·exact w_region (oA rfl (rl_nil (fin_block (hJ3 _ () h _ (jk 11 3 rfl rfl rfl)))))
 refine wsr (oV (v_eql rfl rfl) (oA rfl (rnf (w_condM h rfl (fun _ h => ?_) (fun _ h => ?_)))))
 ·exact w_region (oA rfl (rl_nil (fin_block (hJ3 _ () h _ (jk 13 3 rfl rfl rfl)))))
 refine w_seq (wsr (oV (v_eql rfl rfl) (oA rfl (rnf (w_J (jb 17) je .nil h (fun q4 g4 h => ?_) (fun J5 h hJ5 => ?_))))))
 ·refine w_condM h rfl (fun _ h => ?_) (fun _ h => ?_)
  ·exact w_region (oA rfl (rl_nil (fin_block (hJ3 _ () h _ (jk 16 3 rfl rfl rfl)))))
  refine wsr (oV (v_eql rfl rfl) (oA rfl (rnf (w_condM h rfl (fun _ h => ?_) (fun _ h => ?_)))))
  ·exact w_region (oA rfl (rl_nil (fin_block (hJ3 _ () h _ (jk 18 3 rfl rfl rfl)))))
  exact w_skip (fin_block (hJ3 _ () h _ (jk 17 3 rfl rfl rfl)))
 refine w_condM h rfl (fun _ h => ?_) (fun _ h => ?_)
 ·exact w_skip (hJ5 _ () h _ (jk 0 17 rfl rfl rfl))
 exact w_region (oV (v_eql rfl rfl) (oA rfl (rl_nil (hJ5 _ () h _ (jk 2 17 rfl rfl rfl)))))


theorem table_types_add_w : ∀ {a_t : GTmk} {a_x : GTyp} {b_a_t : Nat} {v_a_t1 : Vt} {r : Int × GTmk}, table_types_add a_t a_x = some r → Ctr Tryz.prog 89 [ptrv b_a_t ((Fld.id ((Wr Vh) × GMod)).comp pt98_0_0), isv (a_x)] [boxE b_a_t (((Wr.mk (Vh.mk v_a_t1 a_t.types.l.length)), a_t.m) : ((Wr Vh) × GMod)), vecE v_a_t1 (a_t.types.l : List GTyp)] (fun R H => ∃ u1 : Vt, R = oneOf [isv (r.1)] ∧ H = [boxE b_a_t (((Wr.mk (Vh.mk u1 r.2.types.l.length)), r.2.m)), vecE u1 (r.2.types.l)]) := by
 intro a_t a_x b_a_t v_a_t1 r h
 unfold table_types_add at h
 refine spec_introD Tryz.func89 rfl fun w0 S0 hT => wsr (oT (t_boxIC (y := a_x) rfl hI (oA rfl (rnf (w_seq (w_J (ι := GTmk) (γ := Vt) (fun q2 g2 => []) (fun q2 g2 => [boxE b_a_t (((Wr.mk (Vh.mk g2 q2.types.l.length)), q2.m) : ((Wr Vh) × GMod)), vecE g2 (q2.types.l : List GTyp)]) k2 h (fun q2 g2 h => ?_) (fun J3 h hJ3 => ?_)))))))
 ·refine wsr (oM rfl (oV (v_nilCheck rfl) (oV (v_fa rfl pt96_0_0 fd96_0) (oT (t_loadC (R := vecv g2 (q2.types.l.length)) ty31 rfl .here isvV1 (oV (v_vlen sl31 rfl) (ck_inv h fun q9 h => oV (v_sub rfl rfl q9) (oA rfl ?_))))))))
  refine rnf (w_ret (ret_post (.tmp rfl .nil) k2 ?_))
  cases h
  exact ⟨g2, rfl, rfl⟩
 refine w_regionD (.v 0 (.v 1 (.v 2 (.v 3 (.v 5 (.alt 4 (.t 6 (.t 7 (.v 8 (.v 9 (.t 10 .nil))))) (.t 6 (.t 4 (.t 7 (.v 8 (.v 9 (.t 10 .nil)))))))))))) moOrd (by kernel_rfl) ?_
 refine rvm rfl rfl (rvm rfl rfl (rd_v rfl (v_nilCheck rfl) (rd_v rfl (v_fa rfl pt96_0_0 fd96_0) (rd_v rfl (v_loadI ty43 rfl) (asr_inv h fun q6 h => rd_two ?_ ?_)))))
 ·refine rd_t rfl rfl (t_loadC (R := vecv v_a_t1 (a_t.types.l.length)) ty31 rfl .here isvV1 (rd_t rfl rfl (t_buildSlice (l := ([a_x] : (List GTyp))) el31 (.cons rfl hI .nil) rfl rfl (rd_t rfl rfl (t_vappF (m := ([a_x] : (List GTyp))) ap31_31 rfl rfl appv_isv tH (by first | rfl | simp) q6 fun v5 => ?_)))))
  exact rd_v rfl (v_nilCheck rfl) (rd_v rfl (v_fa rfl pt96_0_0 fd96_0) (rd_t rfl rfl (t_storeC (y' := (((Wr.mk (Vh.mk v5 (a_t.types.l ++ ([a_x] : (List GTyp))).length)), a_t.m) : ((Wr Vh) × GMod))) ty31 rfl rfl isvV2 tH rfl (rd_nil (hJ3 _ (v5) h _ (join_imp 10 rfl rfl mod_nil k2))))))
 refine rd_t rfl rfl (t_buildSlice (l := ([a_x] : (List GTyp))) el31 (.cons rfl hI .nil) rfl rfl (rd_t rfl rfl (t_loadC (R := vecv v_a_t1 (a_t.types.l.length)) ty31 rfl .here isvV1 (rd_t rfl rfl (t_vappF (m := ([a_x] : (List GTyp))) ap31_31 rfl rfl appv_isv tH (by first | rfl | simp) q6 fun v8 => ?_)))))
 exact rd_v rfl (v_nilCheck rfl) (rd_v rfl (v_fa rfl pt96_0_0 fd96_0) (rd_t rfl rfl (t_storeC (y' := (((Wr.mk (Vh.mk v8 (a_t.types.l ++ ([a_x] : (List GTyp))).length)), a_t.m) : ((Wr Vh) × GMod))) ty31 rfl rfl isvV2 tH rfl (rd_nil (hJ3 _ (v8) h _ (join_imp 10 rfl rfl mod_nil k2))))))


theorem bounds_checked_both_w : ∀ {a_c : GCkd} {r : Bool}, bounds_checked_both a_c = some r → Ctr Tryz.prog 123 [isv (a_c)] [] (fun R H => R = oneOf [isv (r)] ∧ H = []) := by
 intro a_c r h
 unfold bounds_checked_both at h
 refine spec_introD Tryz.func123 rfl fun w0 S0 hT => wsr (oT (t_boxIC (y := a_c) rfl hI (oA rfl (rnf (wsr (oV (v_fi rfl GCkd.f0 fd166_0 rfl (z := a_c.con)) (oV (v_fi rfl GCon.f0 fd39_0 rfl (z := a_c.con.has)) (oV (v_loadI ty4 rfl) ?_))))))))
 refine oM rfl (rl_j (jb 10) je .nil h 4 rfl (fun q1 g1 h => ?_) (fun J2 h hJ2 => ?_))
 ·refine oM rfl (rl_j (jb 15) je .nil h 4 rfl (fun q4 g4 h => ?_) (fun J5 h hJ5 => ?_))
  ·refine oA rfl (rnf (w_ret ?_))
   cases h
   exact ret_post (.tmp rfl .nil) .nil ⟨rfl, rfl⟩
  refine rl_condM (j := 11) h rfl (fun g6 h => ?_) (fun g6 h => ?_)
  ·exact oK 11 rfl rfl rfl g6 (v_fi rfl GCkd.f0 fd166_0 rfl (z := a_c.con)) (oK 11 rfl rfl rfl g6 (v_fi rfl GCon.f2 fd39_2 rfl (z := a_c.con.hasHigh)) (oK 11 rfl rfl rfl g6 (v_loadI ty4 rfl) (oV (v_pick_t rfl g6 rfl) (hJ5 _ () h _ (ji 4 15 rfl rfl rfl)))))
  exact oP 11 rfl rfl g6 (oP 11 rfl rfl g6 (oP 11 rfl rfl g6 (oV (v_pick_f rfl g6 rfl) (hJ5 _ () h _ (ji 4 15 rfl rfl rfl)))))
 refine rl_condM (j := 6) h rfl (fun g3 h => ?_) (fun g3 h => ?_)
 ·exact oK 6 rfl rfl rfl g3 (v_fi rfl GCkd.f0 fd166_0 rfl (z := a_c.con)) (oK 6 rfl rfl rfl g3 (v_fi rfl GCon.f1 fd39_1 rfl (z := a_c.con.hasLow)) (oK 6 rfl rfl rfl g3 (v_loadI ty4 rfl) (oV (v_pick_t rfl g3 rfl) (hJ2 _ () h _ (ji 4 10 rfl rfl rfl)))))
 exact oP 6 rfl rfl g3 (oP 6 rfl rfl g3 (oP 6 rfl rfl g3 (oV (v_pick_f rfl g3 rfl) (hJ2 _ () h _ (ji 4 10 rfl rfl rfl)))))


theorem bounds_checked_crossed_w : ∀ {a_c : GCkd} {r : Bool}, bounds_checked_crossed a_c = some r → Ctr Tryz.prog 105 [isv (a_c)] [] (fun R H => R = oneOf [isv (r)] ∧ H = []) := by
 intro a_c r h
 unfold bounds_checked_crossed at h
 refine spec_introD Tryz.func105 rfl fun w0 S0 hT => wsr (oT (t_boxIC (y := a_c) rfl hI (oA rfl (rnf (wsr (oV (v_loadI ty166 rfl) (cal_inv h fun y1 hy1 h => oT (t_callE (bounds_checked_both_w hy1) hT (s1 rfl) .nil ?_))))))))
 refine oM rfl (rl_j (jb 13) je .nil h 8 rfl (fun q2 g2 h => ?_) (fun J3 h hJ3 => ?_))
 ·refine oA rfl (rnf (w_ret ?_))
  cases h
  exact ret_post (.tmp rfl .nil) .nil ⟨rfl, rfl⟩
 refine rl_condM (j := 5) h rfl (fun g4 h => ?_) (fun g4 h => ?_)
 ·exact oK 5 rfl rfl rfl g4 (v_fi rfl GCkd.f0 fd166_0 rfl (z := a_c.con)) (oK 5 rfl rfl rfl g4 (v_fi rfl GCon.f4 fd39_4 rfl (z := a_c.con.low)) (oK 5 rfl rfl rfl g4 (v_loadI ty2 rfl) (oK 5 rfl rfl rfl g4 (v_fi rfl GCkd.f0 fd166_0 rfl (z := a_c.con)) (oK 5 rfl rfl rfl g4 (v_fi rfl GCon.f5 fd39_5 rfl (z := a_c.con.high)) (oK 5 rfl rfl rfl g4 (v_loadI ty2 rfl) (oK 5 rfl rfl rfl g4 (v_gtr rfl rfl) (oV (v_pick_t rfl g4 rfl) (hJ3 _ () h _ (ji 8 13 rfl rfl rfl)))))))))
 exact oP 5 rfl rfl g4 (oP 5 rfl rfl g4 (oP 5 rfl rfl g4 (oP 5 rfl rfl g4 (oP 5 rfl rfl g4 (oP 5 rfl rfl g4 (oP 5 rfl rfl g4 (oV (v_pick_f rfl g4 rfl) (hJ3 _ () h _ (ji 8 13 rfl rfl rfl)))))))))


theorem bounds_checked_lengths_w : ∀ {a_c : GCkd} {r : Bool}, bounds_checked_lengths a_c = some r → Ctr Tryz.prog 106 [isv (a_c)] [] (fun R H => R = oneOf [isv (r)] ∧ H = []) := by
 intro a_c r h
 unfold bounds_checked_lengths at h
 refine spec_introD Tryz.func106 rfl fun w0 S0 hT => wsr (oT (t_boxIC (y := a_c) rfl hI (oA rfl (rnf (wsr (oV (v_fi rfl GCkd.f0 fd166_0 rfl (z := a_c.con)) (oV (v_fi rfl GCon.f1 fd39_1 rfl (z := a_c.con.hasLow)) (oV (v_loadI ty4 rfl) ?_))))))))
 refine oM rfl (rl_j (jb 11) je .nil h 5 rfl (fun q1 g1 h => ?_) (fun J2 h hJ2 => ?_))
 ·refine oM rfl (rl_j (jb 17) je .nil h 5 rfl (fun q4 g4 h => ?_) (fun J5 h hJ5 => ?_))
  ·refine oM rfl (rl_j (jb 35) je .nil h 17 rfl (fun q7 g7 h => ?_) (fun J8 h hJ8 => ?_))
   ·refine oA rfl (rnf (w_ret ?_))
    cases h
    exact ret_post (.tmp rfl .nil) .nil ⟨rfl, rfl⟩
   refine rl_condM (j := 18) h rfl (fun g9 h => ?_) (fun g9 h => ?_)
   ·refine oK 18 rfl rfl rfl g9 (v_fi rfl GCkd.f0 fd166_0 rfl (z := a_c.con)) (oK 18 rfl rfl rfl g9 (v_fi rfl GCon.f2 fd39_2 rfl (z := a_c.con.hasHigh)) (oK 18 rfl rfl rfl g9 (v_loadI ty4 rfl) (oK 18 rfl rfl rfl g9 (v_not rfl) (oK 18 rfl rfl rfl g9 (v_move rfl) (rl_j (jb 34) je .nil h 11 rfl (fun q10 g10 h => ?_) (fun J11 h hJ11 => ?_))))))
    ·exact oV (v_pick_t rfl g9 rfl) (hJ8 _ () h _ (ji 7 35 rfl rfl rfl))
    refine rl_condM (j := 23) h rfl (fun g12 h => ?_) (fun g12 h => ?_)
    ·refine oP 23 rfl rfl g12 (oP 23 rfl rfl g12 (oP 23 rfl rfl g12 (oP 23 rfl rfl g12 (oP 23 rfl rfl g12 (op_passU rfl (dj := 28) rfl (op_passU rfl (dj := 28) rfl (op_passU rfl (dj := 28) rfl (op_passU rfl (dj := 28) rfl ?_))))))))
     exact oP 23 rfl rfl g12 (oK 18 rfl rfl rfl g9 (v_pick_t rfl g12 rfl) (hJ11 _ () h _ (ji 11 34 rfl rfl rfl)))
    refine oK 23 rfl rfl rfl g12 (v_fi rfl GCkd.f0 fd166_0 rfl (z := a_c.con)) (oK 23 rfl rfl rfl g12 (v_fi rfl GCon.f5 fd39_5 rfl (z := a_c.con.high)) (oK 23 rfl rfl rfl g12 (v_loadI ty2 rfl) (oK 23 rfl rfl rfl g12 (v_geq rfl rfl) (oK 23 rfl rfl rfl g12 (v_move rfl) (rl_j (jb 33) je .nil h 5 rfl (fun q13 g13 h => ?_) (fun J14 h hJ14 => ?_))))))
    ·exact oK 18 rfl rfl rfl g9 (v_pick_f rfl g12 rfl) (hJ11 _ () h _ (ji 7 34 rfl rfl rfl))
    refine rl_condM (j := 28) h rfl (fun g15 h => ?_) (fun g15 h => ?_)
    ·exact oK 28 rfl rfl rfl g15 (v_fi rfl GCkd.f0 fd166_0 rfl (z := a_c.con)) (oK 28 rfl rfl rfl g15 (v_fi rfl GCon.f5 fd39_5 rfl (z := a_c.con.high)) (oK 28 rfl rfl rfl g15 (v_loadI ty2 rfl) (oK 28 rfl rfl rfl g15 (v_leq rfl rfl) (oK 23 rfl rfl rfl g12 (v_pick_t rfl g15 rfl) (hJ14 _ () h _ (ji 5 33 rfl rfl rfl))))))
    exact oP 28 rfl rfl g15 (oP 28 rfl rfl g15 (oP 28 rfl rfl g15 (oP 28 rfl rfl g15 (oK 23 rfl rfl rfl g12 (v_pick_f rfl g15 rfl) (hJ14 _ () h _ (ji 5 33 rfl rfl rfl))))))
   refine oP 18 rfl rfl g9 (oP 18 rfl rfl g9 (oP 18 rfl rfl g9 (oP 18 rfl rfl g9 (oP 18 rfl rfl g9 (op_passU rfl (dj := 23) rfl (op_passU rfl (dj := 23) rfl (op_passU rfl (dj := 23) rfl (op_passU rfl (dj := 23) rfl ?_))))))))
   exact op_passU rfl (dj := 23) rfl (op_passU rfl (dj := 28) rfl (op_passU rfl (dj := 28) rfl (op_passU rfl (dj := 28) rfl (op_passU rfl (dj := 28) rfl (op_passU rfl (dj := 23) rfl (oP 18 rfl rfl g9 (oV (v_pick_f rfl g9 rfl) (hJ8 _ () h _ (ji 17 35 rfl rfl rfl)))))))))
  refine rl_condM (j := 12) h rfl (fun g6 h => ?_) (fun g6 h => ?_)
  ·exact oK 12 rfl rfl rfl g6 (v_fi rfl GCkd.f0 fd166_0 rfl (z := a_c.con)) (oK 12 rfl rfl rfl g6 (v_fi rfl GCon.f4 fd39_4 rfl (z := a_c.con.low)) (oK 12 rfl rfl rfl g6 (v_loadI ty2 rfl) (oK 12 rfl rfl rfl g6 (v_leq rfl rfl) (oV (v_pick_t rfl g6 rfl) (hJ5 _ () h _ (ji 5 17 rfl rfl rfl))))))
  exact oP 12 rfl rfl g6 (oP 12 rfl rfl g6 (oP 12 rfl rfl g6 (oP 12 rfl rfl g6 (oV (v_pick_f rfl g6 rfl) (hJ5 _ () h _ (ji 5 17 rfl rfl rfl))))))
 refine rl_condM (j := 6) h rfl (fun g3 h => ?_) (fun g3 h => ?_)
 ·exact oK 6 rfl rfl rfl g3 (v_fi rfl GCkd.f0 fd166_0 rfl (z := a_c.con)) (oK 6 rfl rfl rfl g3 (v_fi rfl GCon.f4 fd39_4 rfl (z := a_c.con.low)) (oK 6 rfl rfl rfl g3 (v_loadI ty2 rfl) (oK 6 rfl rfl rfl g3 (v_geq rfl rfl) (oV (v_pick_t rfl g3 rfl) (hJ2 _ () h _ (ji 5 11 rfl rfl rfl))))))
 exact oP 6 rfl rfl g3 (oP 6 rfl rfl g3 (oP 6 rfl rfl g3 (oP 6 rfl rfl g3 (oV (v_pick_f rfl g3 rfl) (hJ2 _ () h _ (ji 5 11 rfl rfl rfl))))))


theorem bounds_Check_w : ∀ {a_c : GCon} {a_size : Bool} {r : Int}, bounds_Check a_c a_size = some r → Ctr Tryz.prog 90 [isv (a_c), isv (a_size)] [] (fun R H => R = oneOf [isv (r)] ∧ H = []) := by
 intro a_c a_size r h
 unfold bounds_Check at h
 refine spec_introD Tryz.func90 rfl fun w0 S0 hT => wsr (oT (t_boxIC (y := a_c) rfl hI (oA rfl (rnf (wsr (oV (v_loadI ty39 rfl) (oV (v_build (z := (GCkd.mk a_c)) rfl bu166 ze166 (.cons GCkd.f0 fd166_0 rfl hI .nil)) (oT (t_alloc _ ze166 fun b1 => ?_)))))))))
 refine oT (t_storeC (y' := ((GCkd.mk a_c) : GCkd)) ty166 rfl rfl hI .here rfl (rl_upd (upd_imm 5 .here rfl) (rnf (w_seq (wsr (oV (v_fi rfl GCkd.f0 fd166_0 rfl (z := a_c)) (oV (v_fi rfl GCon.f0 fd39_0 rfl (z := a_c.has)) (oV (v_loadI ty4 rfl) (oM rfl ?_)))))))))
 refine rl_j (jb 22) je .nil h 11 rfl (fun q2 g2 h => ?_) (fun J3 h hJ3 => ?_)
 ·refine rnf (w_condM h rfl (fun _ h => ?_) (fun _ h => ?_))
  ·refine wsr (oA rfl (rnf (w_ret (ret_nxt ?_))))
   cases h
   exact ret_post (.tmp rfl .nil) .nil ⟨rfl, rfl⟩
  refine wkf (wsr (oA rfl (rnf (w_ret ?_))))
  cases h
  exact ret_post (.tmp rfl .nil) .nil ⟨rfl, rfl⟩
 refine rl_condM (j := 11) h rfl (fun g4 h => ?_) (fun g4 h => ?_)
 ·refine oK 11 rfl rfl rfl g4 (v_loadI ty166 rfl) (cal_inv h fun y5 hy5 h => op_take rfl rfl (dj := 11) rfl g4 (t_callE (bounds_checked_crossed_w hy5) hT (s1 rfl) .nil (oK 11 rfl rfl rfl g4 (v_move rfl) (rl_j (jb 21) je .nil h 7 rfl (fun q6 g6 h => ?_) (fun J7 h hJ7 => ?_)))))
  ·exact oV (v_pick_t rfl g4 rfl) (hJ3 _ () h _ (ji 5 22 rfl rfl rfl))
  refine rl_condM (j := 14) h rfl (fun g8 h => ?_) (fun g8 h => ?_)
  ·exact oP 14 rfl rfl g8 (oP 14 rfl rfl g8 (op_passU rfl (dj := 16) rfl (op_passU rfl (dj := 16) rfl (op_passU rfl (dj := 16) rfl (oP 14 rfl rfl g8 (oK 11 rfl rfl rfl g4 (v_pick_t rfl g8 rfl) (hJ7 _ () h _ (ji 7 21 rfl rfl rfl))))))))
  refine oK 14 rfl rfl rfl g8 (v_move rfl) (oK 14 rfl rfl rfl g8 (v_move rfl) (rl_j (jb 20) je .nil h 4 rfl (fun q9 g9 h => ?_) (fun J10 h hJ10 => ?_)))
  ·exact oK 11 rfl rfl rfl g4 (v_pick_f rfl g8 rfl) (hJ7 _ () h _ (ji 4 21 rfl rfl rfl))
  refine rl_condM (j := 16) h rfl (fun g11 h => ?_) (fun g11 h => ?_)
  ·exact oK 16 rfl rfl rfl g11 (v_loadI ty166 rfl) (cal_inv h fun y12 hy12 h => op_take rfl rfl (dj := 16) rfl g11 (t_callE (bounds_checked_lengths_w hy12) hT (s1 rfl) .nil (oK 16 rfl rfl rfl g11 (v_not rfl) (oK 14 rfl rfl rfl g8 (v_pick_t rfl g11 rfl) (hJ10 _ () h _ (ji 4 20 rfl rfl rfl))))))
  exact oP 16 rfl rfl g11 (oP 16 rfl rfl g11 (oP 16 rfl rfl g11 (oK 14 rfl rfl rfl g8 (v_pick_f rfl g11 rfl) (hJ10 _ () h _ (ji 4 20 rfl rfl rfl)))))
 refine oP 11 rfl rfl g4 (oP 11 rfl rfl g4 (oP 11 rfl rfl g4 (op_passU rfl (dj := 14) rfl (op_passU rfl (dj := 14) rfl (op_passU rfl (dj := 16) rfl (op_passU rfl (dj := 16) rfl (op_passU rfl (dj := 16) rfl (op_passU rfl (dj := 14) rfl ?_))))))))
 exact oP 11 rfl rfl g4 (oV (v_pick_f rfl g4 rfl) (hJ3 _ () h _ (ji 11 22 rfl rfl rfl)))


theorem table_root_w : ∀ {a_n_ : Int} {a_l : (List GItem)} {r : Int}, table_root a_n_ a_l = some r → Ctr Tryz.prog 108 [isv (a_n_), isv (a_l)] [] (fun R H => R = oneOf [isv (r)] ∧ H = []) := by
 intro a_n_ a_l r h
 unfold table_root at h
 refine spec_introD Tryz.func108 rfl fun w0 S0 hT => wsr (oA rfl (rnf (wsr (oM rfl (oM rfl (oV (v_ln (l := a_l) rfl hI sl40) (oV (v_min rfl rfl) ?_)))))))
 refine oV (v_max rfl rfl) (oA rfl (rnf (w_ret ?_)))
 cases h
 exact ret_post (.tmp rfl .nil) .nil ⟨rfl, rfl⟩


theorem table_has_c1_w : ∀ {a_x : GItem} {a_a1 : Int} {r : Bool}, table_has_c1 a_x a_a1 = some r → Ctr Tryz.prog 136 [isv (a_x), immv (a_a1)] [] (fun R H => R = oneOf [isv (r)] ∧ H = []) := by
 intro a_x a_a1 r h
 unfold table_has_c1 at h
 refine spec_introD Tryz.func136 rfl fun w0 S0 hT => wsr (oT (t_boxIC (y := a_x) rfl hI (oA rfl (rnf (wsr (oV (v_fi rfl GItem.f2 fd63_2 rfl (z := a_x.has)) (oV (v_loadI ty4 rfl) (oM rfl ?_))))))))
 refine rl_j (jb 11) je .nil h 5 rfl (fun q1 g1 h => ?_) (fun J2 h hJ2 => ?_)
 ·refine oA rfl (rnf (w_ret ?_))
  cases h
  exact ret_post (.tmp rfl .nil) .nil ⟨rfl, rfl⟩
 refine rl_condM (j := 6) h rfl (fun g3 h => ?_) (fun g3 h => ?_)
 ·exact oK 6 rfl rfl rfl g3 (v_fi rfl GItem.f1 fd63_1 rfl (z := a_x.number)) (oK 6 rfl rfl rfl g3 (v_loadI ty2 rfl) (oK 6 rfl rfl rfl g3 (v_loadI ty2 rfl) (oK 6 rfl rfl rfl g3 (v_eql rfl rfl) (oV (v_pick_t rfl g3 rfl) (hJ2 _ () h _ (ji 5 11 rfl rfl rfl))))))
 exact oP 6 rfl rfl g3 (oP 6 rfl rfl g3 (oP 6 rfl rfl g3 (oP 6 rfl rfl g3 (oV (v_pick_f rfl g3 rfl) (hJ2 _ () h _ (ji 5 11 rfl rfl rfl))))))


theorem slices_IndexFunc_Lapi_Item_api_Item_w : ∀ {a_s : (List GItem)} {a_f_0 : Int} {r : Int}, slices_IndexFunc_Lapi_Item_api_Item a_s a_f_0 = some r → Ctr Tryz.prog 126 [isv (a_s), clov 136 [immv (a_f_0)]] [] (fun R H => R = oneOf [isv (r)] ∧ H = []) := by
 intro a_s a_f_0 r h
 unfold slices_IndexFunc_Lapi_Item_api_Item at h
 refine spec_introD Tryz.func126 rfl fun w0 S0 hT => wsr (oA rfl (rnf (w_seq (wsr (oM rfl (oV (v_ln (l := a_s) rfl hI sl40) (oM rfl ?_)))))))
 refine rnf (w_block (w_lp (ι := Int) (γ := Unit) (fun q1 g1 => [(8, isv (q1))]) (fun q1 g1 => []) h () (mod_cons (j := 8) rfl hI mod_nil) .nil (fun L2 q1 g1 Q9 h hL2 eL2 rL2 => wsr (oV (v_lss rfl rfl) (rnf (w_seq (w_condM h rfl (fun _ h => ?_) (fun _ h => ?_))))))))
 ·refine wkf (w_seq (w_block (wsr (oM rfl (oA rfl (rnf (wsr (oM rfl ?_))))))))
  refine oM rfl (oM rfl (cal_inv h fun y6 hy6 h => oV (v_ix (l := a_s) rfl hI rfl sl40 hy6) (oV (v_loadI ty63 rfl) (cal_inv h fun y7 hy7 h => oT (t_callC rfl (s1 rfl) (table_has_c1_w hy7) hT .nil (fun R H' hR => ?_))))))
  obtain ⟨rfl, rfl⟩ := hR
  refine rnf (w_condM h rfl (fun _ h => ?_) (fun _ h => ?_))
  ·refine wsr (oM rfl (oA rfl (rnf (w_ret (ret_block (ret_nxt (rL2 _ (ret_block ?_))))))))
   refine ret_nxt ?_
   cases h
   exact ret_post (.tmp rfl .nil) .nil ⟨rfl, rfl⟩
  exact w_skip (fin_block (fin_nxt (w_region (ck_inv h fun q8 h => oV (v_add rfl rfl q8) (oM rfl (rl_nil (hL2 _ () h _ (ji 12 8 rfl rfl rfl))))))))
 refine w_exit (exi_nxt (eL2 _ _ (exi_block (fin_nxt (wsr (oA rfl (rnf (w_ret ?_))))))))
 cases h
 exact ret_post (.tmp rfl .nil) .nil ⟨rfl, rfl⟩


theorem slices_ContainsFunc_Lapi_Item_api_Item_w : ∀ {a_s : (List GItem)} {a_f_0 : Int} {r : Bool}, slices_ContainsFunc_Lapi_Item_api_Item a_s a_f_0 = some r → Ctr Tryz.prog 109 [isv (a_s), clov 136 [immv (a_f_0)]] [] (fun R H => R = oneOf [isv (r)] ∧ H = []) := by
 intro a_s a_f_0 r h
 unfold slices_ContainsFunc_Lapi_Item_api_Item at h
 refine spec_introD Tryz.func109 rfl fun w0 S0 hT => wsr (oA rfl (rnf (wsr (oM rfl (oM rfl (cal_inv h fun y1 hy1 h => oT (t_callE (slices_IndexFunc_Lapi_Item_api_Item_w hy1) hT (s2 rfl rfl) .nil ?_)))))))
 refine oV (v_geq rfl rfl) (oA rfl (rnf (w_ret ?_)))
 cases h
 exact ret_post (.tmp rfl .nil) .nil ⟨rfl, rfl⟩


theorem table_has_w : ∀ {a_l : (List GItem)} {a_v : Int} {r : Bool}, table_has a_l a_v = some r → Ctr Tryz.prog 124 [isv (a_l), isv (a_v)] [] (fun R H => R = oneOf [isv (r)] ∧ H = []) := by
 intro a_l a_v r h
 unfold table_has at h
 refine spec_introD Tryz.func124 rfl fun w0 S0 hT => wsr (oT (t_boxIC (y := a_v) rfl hI (oA rfl (rnf (wsr (oM rfl (oV (v_makeFunc (s1 rfl)) (cal_inv h fun y1 hy1 h => ?_))))))))
 refine oT (t_callE (slices_ContainsFunc_Lapi_Item_api_Item_w hy1) hT (s2 rfl rfl) .nil (oA rfl (rnf (w_ret ?_))))
 cases h
 exact ret_post (.tmp rfl .nil) .nil ⟨rfl, rfl⟩


theorem table_behind_w : ∀ {a_l : (List GItem)} {r : Int × Bool}, table_behind a_l = some r → Ctr Tryz.prog 125 [isv (a_l)] [] (fun R H => R = oneOf [isv (r.1), isv (r.2)] ∧ H = []) := by
 intro a_l r h
 unfold table_behind at h
 refine spec_introD Tryz.func125 rfl fun w0 S0 hT => wsr (oA rfl (oA rfl (rnf (w_seq (wsr (oM rfl (oV (v_ln (l := a_l) rfl hI sl40) ?_)))))))
 refine oV (v_eql rfl rfl) (rnf (w_condM h rfl (fun _ h => ?_) (fun _ h => ?_)))
 ·refine wsr (oA rfl (oA rfl (rnf (w_ret (ret_nxt ?_)))))
  cases h
  exact ret_post (.tmp rfl (.tmp rfl .nil)) .nil ⟨rfl, rfl⟩
 refine wkf (wsr (oM rfl (cal_inv h fun y1 hy1 h => oV (v_ix (l := a_l) rfl hI rfl sl40 hy1) (oV (v_fi rfl GItem.f1 fd63_1 rfl (z := y1.number)) (oV (v_loadI ty2 rfl) (oA rfl (rnf ?_)))))))
 refine w_seq (wsr (oM rfl (oV (v_ln (l := a_l) rfl hI sl40) (oM rfl (rnf (w_block (w_lp (ι := Int × Int) (γ := Unit) (fun q2 g2 => [(4, isv (q2.1)), (16, isv (q2.2))]) (fun q2 g2 => []) h () (mod_cons (j := 4) rfl hI (mod_cons (j := 16) rfl hI mod_nil)) .nil (fun L3 q2 g2 Q8 h hL3 eL3 rL3 => wsr ?_))))))))
 refine oV (v_lss rfl rfl) (rnf (w_seq (w_condM h rfl (fun _ h => ?_) (fun _ h => ?_))))
 ·refine wkf (w_seq (w_block (wsr (cal_inv h fun y6 hy6 h => oV (v_ix (l := a_l) rfl hI rfl sl40 hy6) (oV (v_loadI ty63 rfl) (oT (t_alloc _ ze63 fun b7 => oT (t_storeC (y' := (y6 : GItem)) ty63 rfl rfl hI .here rfl ?_))))))))
  refine rl_upd (upd_imm 6 .here rfl) (rnf (w_region (oM rfl (oV (v_fi rfl GItem.f1 fd63_1 rfl (z := y6.number)) (oV (v_loadI ty2 rfl) (oV (v_max rfl rfl) (oA rfl (rl_nil ?_))))))))
  exact fin_block (fin_nxt (w_region (oV (v_addW rfl rfl) (oM rfl (rl_nil (hL3 _ () h _ (join_imp 14 rfl rfl (mod_cons (j := 4) rfl hI (mod_cons (j := 16) rfl hI mod_nil)) .nil)))))))
 refine w_exit (exi_nxt (eL3 _ _ (exi_block (fin_nxt (wsr (oM rfl (oV (v_addW rfl rfl) (oM rfl ?_))))))))
 refine oV (v_lss rfl rfl) (oA rfl (oA rfl (rnf (w_ret ?_))))
 cases h
 exact ret_post (.tmp rfl (.tmp rfl .nil)) .nil ⟨rfl, rfl⟩


theorem table_numbered_w : ∀ {a_n_ : GNode} {r : (List GItem) × Bool}, table_numbered a_n_ = some r → Ctr Tryz.prog 107 [isv (a_n_)] [] (fun R H => R = oneOf [isv (r.1), isv (r.2)] ∧ H = []) := by
 intro a_n_ r h
 unfold table_numbered at h
 refine spec_introD Tryz.func107 rfl fun w0 S0 hT => wsr (oT (t_boxIC (y := a_n_) rfl hI (oA rfl (oA rfl (rnf (wsr (oA rfl (rnf ?_))))))))
 refine wsr (oV (v_fi rfl GNode.f6 fd120_6 rfl (z := a_n_.root)) (oV (v_loadI ty3 rfl) (oV (v_fi rfl GNode.f4 fd120_4 rfl (z := a_n_.items)) (oV (v_loadI ty40 rfl) (cal_inv h fun y1 hy1 h => oT (t_callE (table_root_w hy1) hT (s2 rfl rfl) .nil (oA rfl (oA rfl ?_))))))))
 refine rnf (w_seq (wsr (oV (v_fi rfl GNode.f4 fd120_4 rfl (z := a_n_.items)) (oV (v_loadI ty40 rfl) (oV (v_ln (l := a_n_.items) rfl hI sl40) (oM rfl (rnf (w_block ?_))))))))
 refine w_upd (upd_tok) (w_lp (ι := (List GItem) × Int × Int) (γ := Tok) (fun q2 g2 => [(4, appv g2 (q2.1)), (5, isv (q2.2.1)), (18, isv (q2.2.2))]) (fun q2 g2 => [tokE g2]) h (none) (mod_cons (j := 4) rfl nilv_appv (mod_cons (j := 5) rfl hI (mod_cons (j := 18) rfl hI mod_nil))) k1 (fun L3 q2 g2 Q45 h hL3 eL3 rL3 => wsr (oV (v_lss rfl rfl) (rnf (w_seq (w_condM h rfl (fun _ h => ?_) (fun _ h => ?_)))))))
 ·refine wkf (w_seq (w_block (wsr (oM rfl (cal_inv h fun y24 hy24 h => oV (v_ix (l := a_n_.items) rfl hI rfl sl40 hy24) (oV (v_loadI ty63 rfl) (oT (t_alloc _ ze63 fun b25 => ?_))))))))
  refine oA rfl (oT (t_storeC (y' := (y24 : GItem)) ty63 rfl rfl hI .here rfl (rnf (wsr (oA rfl (rnf (w_seq (w_J (ι := Int × Bool × GItem) (γ := Unit) (fun q26 g26 => [(5, isv (q26.1)), (9, isv (q26.2.1))]) (fun q26 g26 => [boxE b25 (q26.2.2 : GItem)]) k1 h (fun q26 g26 h => ?_) (fun J27 h hJ27 => ?_)))))))))
  ·refine w_seq (wsr (oM rfl (oV (v_not rfl) (rnf (w_condM h rfl (fun _ h => ?_) (fun _ h => ?_))))))
   ·refine wsr (oA rfl (oA rfl (rnf (w_ret (ret_nxt (ret_block (ret_nxt (rL3 _ ?_))))))))
    refine ret_block (ret_nxt ?_)
    cases h
    exact ret_post (.as rfl (nilv_isv (α := GItem)) (.tmp rfl .nil)) .nil ⟨rfl, rfl⟩
   refine wkf (w_region (oM rfl (oV (v_fa rfl GItem.f0 fd63_0) (oT (t_loadC (R := isv (q26.2.2.name)) ty9 rfl .here hI (oV (v_fa rfl GItem.f1 fd63_1) (oT (t_loadC (R := isv (q26.2.2.number)) ty2 rfl .here hI (oV (v_build (z := (GItem.mk q26.2.2.name q26.2.2.number false)) rfl bu63 ze63 (.cons GItem.f0 fd63_0 rfl hI (.cons GItem.f1 fd63_1 rfl hI .nil))) (oT (t_buildSlice (l := ([(GItem.mk q26.2.2.name q26.2.2.number false)] : (List GItem))) el40 (.cons rfl hI .nil) rfl rfl ?_)))))))))))
   refine asr_inv h fun q42 h => oT (t_appC (l := q2.1) (m := ([(GItem.mk q26.2.2.name q26.2.2.number false)] : (List GItem))) ap40_40 rfl hI rfl appv_isv tH q42 fun t41 => oA rfl (rl_nil (fin_block (fin_nxt (w_region (ck_inv h fun q43 h => oV (v_add rfl rfl q43) ?_))))))
   exact oM rfl (rl_nil (hL3 _ (t41) h _ (join_imp 25 rfl rfl (mod_cons (j := 4) rfl hI (mod_cons (j := 5) rfl hI (mod_cons (j := 18) rfl hI mod_nil))) k1)))
  refine w_block (wsr (oV (v_fa rfl GItem.f2 fd63_2) (oT (t_loadC (R := isv (y24.has)) ty4 rfl .here hI (oA rfl (rnf (w_condM h rfl (fun _ h => ?_) (fun _ h => ?_))))))))
  ·exact w_skip (fin_block (hJ27 _ () h _ (join_imp 3 rfl rfl (mod_cons (j := 5) rfl hI (mod_cons (j := 9) rfl hI mod_nil)) k2)))
  refine wsr (oM rfl (oM rfl (oV (v_lss rfl rfl) (oA rfl (rnf (w_condM h rfl (fun _ h => ?_) (fun _ h => ?_)))))))
  ·refine w_seq (w_block (w_lp (ι := Int) (γ := Unit) (fun q28 g28 => [(5, isv (q28))]) (fun q28 g28 => []) h () (mod_cons (j := 5) rfl hI mod_nil) .nil (fun L29 q28 g28 Q38 h hL29 eL29 rL29 => w_seq (wsr (oV (v_fi rfl GNode.f4 fd120_4 rfl (z := a_n_.items)) (oV (v_loadI ty40 rfl) (oM rfl (asd_inv h fun q34 h => ?_))))))))
   refine oV (v_sl (l := a_n_.items) rfl hI sl40 (.inl ⟨rfl, rfl⟩) (.inr ⟨_, rfl, rfl⟩) q34.1 q34.2.1 q34.2.2) (oM rfl (cal_inv h fun y35 hy35 h => oT (t_callE (table_has_w hy35) hT (s2 rfl rfl) .nil (rnf (w_condM h rfl (fun _ h => ?_) (fun _ h => ?_))))))
   ·refine wkf (w_block (w_region (oM rfl (ck_inv h fun q36 h => oV (v_add rfl rfl q36) (oA rfl (rl_nil (fin_block ?_)))))))
    exact hL29 _ () h _ (join_imp 10 rfl rfl (mod_cons (j := 5) rfl hI mod_nil) k2)
   refine w_exit (exi_nxt (eL29 _ _ (exi_block (fin_nxt (wsr (oM rfl (oV (v_fa rfl GItem.f1 fd63_1) (oT (t_storeC (y' := ({ y24 with number := q28 } : GItem)) ty2 rfl rfl hI .here rfl ?_)))))))))
   exact rnf (w_region (oM rfl (ck_inv h fun q37 h => oV (v_add rfl rfl q37) (oA rfl (rl_nil (fin_block (hJ27 _ () h _ (join_imp 19 rfl rfl (mod_cons (j := 5) rfl hI (mod_cons (j := 9) rfl hI mod_nil)) k2))))))))
  refine w_region (oM rfl (cal_inv h fun y39 hy39 h => oT (t_callE (table_behind_w hy39) hT (.cons rfl appv_isv .nil) .nil (oM rfl (oV (v_extract rfl rfl) (oV (v_extract rfl rfl) (oV (v_fa rfl GItem.f1 fd63_1) (oT (t_storeC (y' := ({ y24 with number := y39.1 } : GItem)) ty2 rfl rfl hI .here rfl ?_)))))))))
  exact oA rfl (rl_nil (fin_block (hJ27 _ () h _ (join_imp 14 rfl rfl (mod_cons (j := 5) rfl hI (mod_cons (j := 9) rfl hI mod_nil)) k2))))
 refine w_exit (exi_nxt (eL3 _ _ (exi_block (fin_nxt (wsr (oM rfl (oA rfl (oA rfl ?_))))))))
 refine rnf (w_ret ?_)
 cases h
 exact ret_post (.as rfl appv_isv (.tmp rfl .nil)) .nil ⟨rfl, rfl⟩


theorem table_items_c1_w : ∀ {a_y : GItem} {a_a1 : GItem} {r : Bool}, table_items_c1 a_y a_a1 = some r → Ctr Tryz.prog 110 [isv (a_y), immv (a_a1)] [] (fun R H => R = oneOf [isv (r)] ∧ H = []) := by
 intro a_y a_a1 r h
 unfold table_items_c1 at h
 refine spec_introD Tryz.func110 rfl fun w0 S0 hT => wsr (oT (t_boxIC (y := a_y) rfl hI (oA rfl (rnf (wsr (oV (v_fi rfl GItem.f0 fd63_0 rfl (z := a_y.name)) (oV (v_loadI ty9 rfl) (oV (v_fi rfl GItem.f0 fd63_0 rfl (z := a_a1.name)) ?_))))))))
 refine oV (v_loadI ty9 rfl) (oV (v_eqA eq9 rfl rfl) (oM rfl (rl_j (jb 15) je .nil h 6 rfl (fun q1 g1 h => ?_) (fun J2 h hJ2 => ?_))))
 ·refine oA rfl (rnf (w_ret ?_))
  cases h
  exact ret_post (.tmp rfl .nil) .nil ⟨rfl, rfl⟩
 refine rl_condM (j := 9) h rfl (fun g3 h => ?_) (fun g3 h => ?_)
 ·exact oP 9 rfl rfl g3 (oP 9 rfl rfl g3 (oP 9 rfl rfl g3 (oP 9 rfl rfl g3 (oP 9 rfl rfl g3 (oV (v_pick_t rfl g3 rfl) (hJ2 _ () h _ (ji 6 15 rfl rfl rfl)))))))
 exact oK 9 rfl rfl rfl g3 (v_fi rfl GItem.f1 fd63_1 rfl (z := a_y.number)) (oK 9 rfl rfl rfl g3 (v_loadI ty2 rfl) (oK 9 rfl rfl rfl g3 (v_fi rfl GItem.f1 fd63_1 rfl (z := a_a1.number)) (oK 9 rfl rfl rfl g3 (v_loadI ty2 rfl) (oK 9 rfl rfl rfl g3 (v_eql rfl rfl) (oV (v_pick_f rfl g3 rfl) (hJ2 _ () h _ (ji 6 15 rfl rfl rfl)))))))


theorem slices_IndexFunc_Lapi_Item_api_Item_1_w : ∀ {a_s : (List GItem)} {a_f_0 : GItem} {r : Int}, slices_IndexFunc_Lapi_Item_api_Item_1 a_s a_f_0 = some r → Ctr Tryz.prog 126 [isv (a_s), clov 110 [immv (a_f_0)]] [] (fun R H => R = oneOf [isv (r)] ∧ H = []) := by
 intro a_s a_f_0 r h
 unfold slices_IndexFunc_Lapi_Item_api_Item_1 at h
 refine spec_introD Tryz.func126 rfl fun w0 S0 hT => wsr (oA rfl (rnf (w_seq (wsr (oM rfl (oV (v_ln (l := a_s) rfl hI sl40) (oM rfl ?_)))))))
 refine rnf (w_block (w_lp (ι := Int) (γ := Unit) (fun q1 g1 => [(8, isv (q1))]) (fun q1 g1 => []) h () (mod_cons (j := 8) rfl hI mod_nil) .nil (fun L2 q1 g1 Q9 h hL2 eL2 rL2 => wsr (oV (v_lss rfl rfl) (rnf (w_seq (w_condM h rfl (fun _ h => ?_) (fun _ h => ?_))))))))
 ·refine wkf (w_seq (w_block (wsr (oM rfl (oA rfl (rnf (wsr (oM rfl ?_))))))))
  refine oM rfl (oM rfl (cal_inv h fun y6 hy6 h => oV (v_ix (l := a_s) rfl hI rfl sl40 hy6) (oV (v_loadI ty63 rfl) (cal_inv h fun y7 hy7 h => oT (t_callC rfl (s1 rfl) (table_items_c1_w hy7) hT .nil (fun R H' hR => ?_))))))
  obtain ⟨rfl, rfl⟩ := hR
  refine rnf (w_condM h rfl (fun _ h => ?_) (fun _ h => ?_))
  ·refine wsr (oM rfl (oA rfl (rnf (w_ret (ret_block (ret_nxt (rL2 _ (ret_block ?_))))))))
   refine ret_nxt ?_
   cases h
   exact ret_post (.tmp rfl .nil) .nil ⟨rfl, rfl⟩
  exact w_skip (fin_block (fin_nxt (w_region (ck_inv h fun q8 h => oV (v_add rfl rfl q8) (oM rfl (rl_nil (hL2 _ () h _ (ji 12 8 rfl rfl rfl))))))))
 refine w_exit (exi_nxt (eL2 _ _ (exi_block (fin_nxt (wsr (oA rfl (rnf (w_ret ?_))))))))
 cases h
 exact ret_post (.tmp rfl .nil) .nil ⟨rfl, rfl⟩


theorem slices_ContainsFunc_Lapi_Item_api_Item_1_w : ∀ {a_s : (List GItem)} {a_f_0 : GItem} {r : Bool}, slices_ContainsFunc_Lapi_Item_api_Item_1 a_s a_f_0 = some r → Ctr Tryz.prog 109 [isv (a_s), clov 110 [immv (a_f_0)]] [] (fun R H => R = oneOf [isv (r)] ∧ H = []) := by
 intro a_s a_f_0 r h
 unfold slices_ContainsFunc_Lapi_Item_api_Item_1 at h
 refine spec_introD Tryz.func109 rfl fun w0 S0 hT => wsr (oA rfl (rnf (wsr (oM rfl (oM rfl (cal_inv h fun y1 hy1 h => oT (t_callE (slices_IndexFunc_Lapi_Item_api_Item_1_w hy1) hT (s2 rfl rfl) .nil ?_)))))))
 refine oV (v_geq rfl rfl) (oA rfl (rnf (w_ret ?_)))
 cases h
 exact ret_post (.tmp rfl .nil) .nil ⟨rfl, rfl⟩


theorem table_items_w : ∀ {a_n_ : GNode} {r : (List GItem) × Int}, table_items a_n_ = some r → Ctr Tryz.prog 91 [isv (a_n_)] [] (fun R H => R = oneOf [isv (r.1), isv (r.2)] ∧ H = []) := by
 intro a_n_ r h
 unfold table_items at h
 refine spec_introD Tryz.func91 rfl fun w0 S0 hT => wsr (oT (t_boxIC (y := a_n_) rfl hI (oA rfl (oA rfl (rnf (wsr (oV (v_loadI ty120 rfl) (cal_inv h fun y1 hy1 h => ?_))))))))
 refine oT (t_callE (table_numbered_w hy1) hT (s1 rfl) .nil (oM rfl (oV (v_extract rfl rfl) (oV (v_extract rfl rfl) (oA rfl (oA rfl (rnf (w_seq (wsr ?_)))))))))
 refine oM rfl (oV (v_not rfl) (rnf (w_condM h rfl (fun _ h => ?_) (fun _ h => ?_))))
 ·refine wsr (oA rfl (oA rfl (rnf (w_ret (ret_nxt ?_)))))
  cases h
  exact ret_post (.as rfl (nilv_isv (α := GItem)) (.tmp rfl .nil)) .nil ⟨rfl, rfl⟩
 refine wkf (wsr (oV (v_fi rfl GNode.f6 fd120_6 rfl (z := a_n_.root)) (oV (v_loadI ty3 rfl) (oV (v_fi rfl GNode.f4 fd120_4 rfl (z := a_n_.items)) (oV (v_loadI ty40 rfl) (cal_inv h fun y2 hy2 h => oT (t_callE (table_root_w hy2) hT (s2 rfl rfl) .nil (oA rfl ?_))))))))
 refine rnf (w_seq (wsr (oM rfl (oV (v_ln (l := y1.1) rfl hI sl40) (oM rfl (rnf (w_block (w_lp (ι := Int) (γ := Unit) (fun q3 g3 => [(24, isv (q3))]) (fun q3 g3 => []) h () (mod_cons (j := 24) rfl hI mod_nil) .nil (fun L4 q3 g3 Q31 h hL4 eL4 rL4 => ?_)))))))))
 refine wsr (oV (v_lss rfl rfl) (rnf (w_seq (w_condM h rfl (fun _ h => ?_) (fun _ h => ?_)))))
 ·refine wkf (w_seq (w_block (wsr (oM rfl (cal_inv h fun y18 hy18 h => oV (v_ix (l := y1.1) rfl hI rfl sl40 hy18) (oV (v_loadI ty63 rfl) (oT (t_alloc _ ze63 fun b19 => ?_))))))))
  refine oA rfl (oT (t_storeC (y' := (y18 : GItem)) ty63 rfl rfl hI .here rfl (rl_upd (upd_imm 8 .here rfl) (rnf (wsr (oM rfl (oM rfl (asd_inv h fun q20 h => oV (v_sl (l := y1.1) rfl hI sl40 (.inl ⟨rfl, rfl⟩) (.inr ⟨_, rfl, rfl⟩) q20.1 q20.2.1 q20.2.2) ?_))))))))
  refine oV (v_makeFunc (s1 rfl)) (cal_inv h fun y21 hy21 h => oT (t_callE (slices_ContainsFunc_Lapi_Item_api_Item_1_w hy21) hT (s2 rfl rfl) .nil (oA rfl (rnf (w_seq (w_regionD (.v 0 (.v 1 (.v 2 (.v 3 (.v 4 (.v 5 (.v 6 (.v 7 (.v 8 (.v 9 (.v 10 (.v 11 (.v 12 (.v 13 (.v 14 (.v 15 (.v 16 .nil))))))))))))))))) moOrd (by kernel_rfl) ?_))))))
  refine rvm rfl rfl (rvm rfl rfl (rd_j (jb 50) je .nil h 15 rfl (fun q22 g22 h => ?_) (fun J23 h hJ23 => ?_)))
  ·refine rd_nil (fin_nxt (w_condM h rfl (fun _ h => ?_) (fun _ h => ?_)))
   ·refine wsr (oA rfl (oA rfl (rnf (w_ret (ret_block (ret_nxt (rL4 _ (ret_block ?_))))))))
    refine ret_nxt ?_
    cases h
    exact ret_post (.as rfl (nilv_isv (α := GItem)) (.tmp rfl .nil)) .nil ⟨rfl, rfl⟩
   exact w_skip (fin_block (fin_nxt (w_region (ck_inv h fun q30 h => oV (v_add rfl rfl q30) (oM rfl (rl_nil (hL4 _ () h _ (ji 19 24 rfl rfl rfl))))))))
  refine rd_condM (j := 35) h rfl (fun g24 h => ?_) (fun g24 h => ?_)
  ·refine rpv 35 rfl rfl rfl g24 (rpv 35 rfl rfl rfl g24 (rpv 35 rfl rfl rfl g24 (rpv 35 rfl rfl rfl g24 (rd_passUV rfl rfl (dj := 39) rfl (rd_passUV rfl rfl (dj := 39) rfl (rd_passUV rfl rfl (dj := 39) rfl (rd_passUV rfl rfl (dj := 39) rfl (rd_passUV rfl rfl (dj := 39) rfl ?_))))))))
   exact rd_passUV rfl rfl (dj := 39) rfl (rd_passUV rfl rfl (dj := 39) rfl (rd_passUV rfl rfl (dj := 39) rfl (rd_passUV rfl rfl (dj := 39) rfl (rpv 35 rfl rfl rfl g24 (rd_v rfl (v_pick_t rfl g24 rfl) (hJ23 _ () h _ (ji 15 50 rfl rfl rfl)))))))
  refine rvt 35 rfl rfl rfl g24 (v_move rfl) (rvt 35 rfl rfl rfl g24 (v_move rfl) (rvt 35 rfl rfl rfl g24 (v_gtr rfl rfl) (rvt 35 rfl rfl rfl g24 (v_move rfl) (rd_j (jb 49) je .nil h 10 rfl (fun q25 g25 h => ?_) (fun J26 h hJ26 => ?_)))))
  ·exact rd_v rfl (v_pick_f rfl g24 rfl) (hJ23 _ () h _ (ji 6 50 rfl rfl rfl))
  refine rd_condM (j := 39) h rfl (fun g27 h => ?_) (fun g27 h => ?_)
  ·refine rvt 39 rfl rfl rfl g27 (v_fi rfl GItem.f1 fd63_1 rfl (z := y18.number)) (rvt 39 rfl rfl rfl g27 (v_loadI ty2 rfl) (rvt 39 rfl rfl rfl g27 (v_move rfl) (rvt 39 rfl rfl rfl g27 (v_move rfl) (ck_inv h fun q28 h => rvt 39 rfl rfl rfl g27 (v_sub rfl rfl q28) (cal_inv h fun y29 hy29 h => rvt 39 rfl rfl rfl g27 (v_ix (l := y1.1) rfl hI rfl sl40 hy29) (rvt 39 rfl rfl rfl g27 (v_fi rfl GItem.f1 fd63_1 rfl (z := y29.number)) ?_))))))
   exact rvt 39 rfl rfl rfl g27 (v_loadI ty2 rfl) (rvt 39 rfl rfl rfl g27 (v_leq rfl rfl) (rvt 35 rfl rfl rfl g24 (v_pick_t rfl g27 rfl) (hJ26 _ () h _ (ji 10 49 rfl rfl rfl))))
  refine rpv 39 rfl rfl rfl g27 (rpv 39 rfl rfl rfl g27 (rpv 39 rfl rfl rfl g27 (rpv 39 rfl rfl rfl g27 (rpv 39 rfl rfl rfl g27 (rpv 39 rfl rfl rfl g27 (rpv 39 rfl rfl rfl g27 (rpv 39 rfl rfl rfl g27 (rpv 39 rfl rfl rfl g27 ?_))))))))
  exact rvt 35 rfl rfl rfl g24 (v_pick_f rfl g27 rfl) (hJ26 _ () h _ (ji 10 49 rfl rfl rfl))
 refine w_exit (exi_nxt (eL4 _ _ (exi_block (fin_nxt (wsr (oM rfl (oA rfl (oA rfl ?_))))))))
 refine rnf (w_ret ?_)
 cases h
 exact ret_post (.tmp rfl (.tmp rfl .nil)) .nil ⟨rfl, rfl⟩


theorem table_maker_automatic_c1_w : ∀ {a_f : GFld} {a_a1 : GTmk} {b_a_a1 : Nat} {v_a_a11 : Vt} {r : Bool × GTmk}, table_maker_automatic_c1 a_f a_a1 = some r → Ctr Tryz.prog 128 [isv (a_f), immv (PtrB.mk b_a_a1)] [boxE b_a_a1 (((Wr.mk (Vh.mk v_a_a11 a_a1.types.l.length)), a_a1.m) : ((Wr Vh) × GMod)), vecE v_a_a11 (a_a1.types.l : List GTyp)] (fun R H => R = oneOf [isv (r.1)] ∧ H = [boxE b_a_a1 (((Wr.mk (Vh.mk v_a_a11 r.2.types.l.length)), r.2.m)), vecE v_a_a11 (r.2.types.l)]) := by
 intro a_f a_a1 b_a_a1 v_a_a11 r h
 unfold table_maker_automatic_c1 at h
 refine spec_introD Tryz.func128 rfl fun w0 S0 hT => wsr (oT (t_boxIC (y := a_f) rfl hI (oA rfl (rnf (w_seq (w_regionD (.v 0 (.v 1 (.v 2 (.v 3 (.v 4 (.v 5 (.v 6 (.v 7 (.v 8 (.v 9 (.t 10 (.v 11 (.v 12 (.v 13 (.v 14 (.v 15 (.v 16 (.v 17 (.v 18 (.v 20 (.v 21 (.t 19 (.v 22 (.v 23 (.v 24 (.v 25 (.v 26 (.v 27 .nil)))))))))))))))))))))))))))) moOrd (by kernel_rfl) ?_))))))
 refine rd_v rfl (v_fi rfl GFld.f1 fd51_1 rfl (z := a_f.ty)) (rd_v rfl (v_loadI ty3 rfl) (rd_v rfl (v_geq rfl rfl) (rvm rfl rfl (rd_j (jb 17) je .nil h 10 rfl (fun q2 g2 h => ?_) (fun J3 h hJ3 => ?_)))))
 ·refine rvm rfl rfl (rd_j (jb 30) je .nil h 12 rfl (fun q5 g5 h => ?_) (fun J6 h hJ6 => ?_))
  ·refine rd_v rfl (v_assign rfl) (rd_nil (fin_nxt (w_ret ?_)))
   cases h
   exact ret_post (.tmp rfl .nil) k2 ⟨rfl, rfl⟩
  refine rd_condM (j := 18) h rfl (fun g7 h => ?_) (fun g7 h => ?_)
  ·refine rvt 18 rfl rfl rfl g7 (v_loadIP (α := ((Wr Vh) × GMod)) ty94 rfl) (rvt 18 rfl rfl rfl g7 (v_nilCheck rfl) (rvt 18 rfl rfl rfl g7 (v_fa rfl pt98_0_1 fd98_1) (rvt 18 rfl rfl rfl g7 (v_fa rfl GMod.f4 fd26_4) (rvt 18 rfl rfl rfl g7 (v_fi rfl GFld.f1 fd51_1 rfl (z := a_f.ty)) (rvt 18 rfl rfl rfl g7 (v_loadI ty3 rfl) (rd_tt rfl rfl rfl (dj := 18) rfl g7 (t_loadC (R := isv (a_a1.m.nodes)) ty24 rfl .here hI (cal_inv h fun y8 hy8 h => rvt 18 rfl rfl rfl g7 (v_ix (l := a_a1.m.nodes) rfl hI rfl sl24 hy8) ?_))))))))
   exact rvt 18 rfl rfl rfl g7 (v_fi rfl GNode.f2 fd120_2 rfl (z := y8.mark)) (rvt 18 rfl rfl rfl g7 (v_fi rfl GMark.f0 fd118_0 rfl (z := y8.mark.has)) (rvt 18 rfl rfl rfl g7 (v_loadI ty4 rfl) (rd_v rfl (v_pick_t rfl g7 rfl) (hJ6 _ () h _ (join_imp 12 rfl rfl (mod_cons (j := 30) rfl hI mod_nil) k2)))))
  refine rpv 18 rfl rfl rfl g7 (rpv 18 rfl rfl rfl g7 (rpv 18 rfl rfl rfl g7 (rpv 18 rfl rfl rfl g7 (rpv 18 rfl rfl rfl g7 (rpv 18 rfl rfl rfl g7 (rd_passT rfl rfl (dj := 18) rfl g7 (rpv 18 rfl rfl rfl g7 (rpv 18 rfl rfl rfl g7 ?_))))))))
  exact rpv 18 rfl rfl rfl g7 (rpv 18 rfl rfl rfl g7 (rd_v rfl (v_pick_f rfl g7 rfl) (hJ6 _ () h _ (join_imp 12 rfl rfl (mod_cons (j := 30) rfl hI mod_nil) k2))))
 refine rd_condM (j := 7) h rfl (fun g4 h => ?_) (fun g4 h => ?_)
 ·refine rvt 7 rfl rfl rfl g4 (v_fi rfl GFld.f1 fd51_1 rfl (z := a_f.ty)) (rvt 7 rfl rfl rfl g4 (v_loadI ty3 rfl) (rvt 7 rfl rfl rfl g4 (v_loadIP (α := ((Wr Vh) × GMod)) ty94 rfl) (rvt 7 rfl rfl rfl g4 (v_nilCheck rfl) (rvt 7 rfl rfl rfl g4 (v_fa rfl pt98_0_1 fd98_1) (rvt 7 rfl rfl rfl g4 (v_fa rfl GMod.f4 fd26_4) (rd_tt rfl rfl rfl (dj := 7) rfl g4 (t_loadC (R := isv (a_a1.m.nodes)) ty24 rfl .here hI (rvt 7 rfl rfl rfl g4 (v_ln (l := a_a1.m.nodes) rfl hI sl24) (rvt 7 rfl rfl rfl g4 (v_lss rfl rfl) ?_)))))))))
  exact rd_v rfl (v_pick_t rfl g4 rfl) (hJ3 _ () h _ (join_imp 10 rfl rfl (mod_cons (j := 17) rfl hI mod_nil) k2))
 refine rpv 7 rfl rfl rfl g4 (rpv 7 rfl rfl rfl g4 (rpv 7 rfl rfl rfl g4 (rpv 7 rfl rfl rfl g4 (rpv 7 rfl rfl rfl g4 (rpv 7 rfl rfl rfl g4 (rd_passT rfl rfl (dj := 7) rfl g4 (rpv 7 rfl rfl rfl g4 (rpv 7 rfl rfl rfl g4 ?_))))))))
 exact rd_v rfl (v_pick_f rfl g4 rfl) (hJ3 _ () h _ (join_imp 10 rfl rfl (mod_cons (j := 17) rfl hI mod_nil) k2))


theorem slices_IndexFunc_Lapi_Field_api_Field_w : ∀ {a_s : (List GFld)} {a_f_0 : GTmk} {b_a_f_0 : Nat} {v_a_f_01 : Vt} {r : Int × GTmk}, slices_IndexFunc_Lapi_Field_api_Field a_s a_f_0 = some r → Ctr Tryz.prog 137 [isv (a_s), clov 128 [immv (PtrB.mk b_a_f_0)]] [boxE b_a_f_0 (((Wr.mk (Vh.mk v_a_f_01 a_f_0.types.l.length)), a_f_0.m) : ((Wr Vh) × GMod)), vecE v_a_f_01 (a_f_0.types.l : List GTyp)] (fun R H => R = oneOf [isv (r.1)] ∧ H = [boxE b_a_f_0 (((Wr.mk (Vh.mk v_a_f_01 r.2.types.l.length)), r.2.m)), vecE v_a_f_01 (r.2.types.l)]) := by
 intro a_s a_f_0 b_a_f_0 v_a_f_01 r h
 unfold slices_IndexFunc_Lapi_Field_api_Field at h
 refine spec_introD Tryz.func137 rfl fun w0 S0 hT => wsr (oA rfl (rnf (w_seq (wsr (oM rfl (oV (v_ln (l := a_s) rfl hI sl41) (oM rfl ?_)))))))
 refine rnf (w_block (w_lp (ι := Int × GTmk) (γ := Unit) (fun q2 g2 => [(8, isv (q2.1))]) (fun q2 g2 => [boxE b_a_f_0 (((Wr.mk (Vh.mk v_a_f_01 q2.2.types.l.length)), q2.2.m) : ((Wr Vh) × GMod)), vecE v_a_f_01 (q2.2.types.l : List GTyp)]) h () (mod_cons (j := 8) rfl hI mod_nil) k2 (fun L3 q2 g2 Q10 h hL3 eL3 rL3 => wsr (oV (v_lss rfl rfl) (rnf (w_seq (w_condM h rfl (fun _ h => ?_) (fun _ h => ?_))))))))
 ·refine wkf (w_seq (w_block (wsr (oM rfl (oA rfl (rnf (wsr (oM rfl ?_))))))))
  refine oM rfl (oM rfl (cal_inv h fun y7 hy7 h => oV (v_ix (l := a_s) rfl hI rfl sl41 hy7) (oV (v_loadI ty51 rfl) (cal_inv h fun y8 hy8 h => oT (t_callC rfl (s1 rfl) (table_maker_automatic_c1_w hy8) hT k2 (fun R H' hR => ?_))))))
  obtain ⟨rfl, rfl⟩ := hR
  refine rnf (w_condM h rfl (fun _ h => ?_) (fun _ h => ?_))
  ·refine wsr (oM rfl (oA rfl (rnf (w_ret (ret_block (ret_nxt (rL3 _ (ret_block ?_))))))))
   refine ret_nxt ?_
   cases h
   exact ret_post (.tmp rfl .nil) k2 ⟨rfl, rfl⟩
  exact w_skip (fin_block (fin_nxt (w_region (ck_inv h fun q9 h => oV (v_add rfl rfl q9) (oM rfl (rl_nil (hL3 _ () h _ (join_imp 12 rfl rfl (mod_cons (j := 8) rfl hI mod_nil) k2))))))))
 refine w_exit (exi_nxt (eL3 _ _ (exi_block (fin_nxt (wsr (oA rfl (rnf (w_ret ?_))))))))
 cases h
 exact ret_post (.tmp rfl .nil) k2 ⟨rfl, rfl⟩


theorem slices_ContainsFunc_Lapi_Field_api_Field_w : ∀ {a_s : (List GFld)} {a_f_0 : GTmk} {b_a_f_0 : Nat} {v_a_f_01 : Vt} {r : Bool × GTmk}, slices_ContainsFunc_Lapi_Field_api_Field a_s a_f_0 = some r → Ctr Tryz.prog 127 [isv (a_s), clov 128 [immv (PtrB.mk b_a_f_0)]] [boxE b_a_f_0 (((Wr.mk (Vh.mk v_a_f_01 a_f_0.types.l.length)), a_f_0.m) : ((Wr Vh) × GMod)), vecE v_a_f_01 (a_f_0.types.l : List GTyp)] (fun R H => R = oneOf [isv (r.1)] ∧ H = [boxE b_a_f_0 (((Wr.mk (Vh.mk v_a_f_01 r.2.types.l.length)), r.2.m)), vecE v_a_f_01 (r.2.types.l)]) := by
 intro a_s a_f_0 b_a_f_0 v_a_f_01 r h
 unfold slices_ContainsFunc_Lapi_Field_api_Field at h
 refine spec_introD Tryz.func127 rfl fun w0 S0 hT => wsr (oA rfl (rnf (wsr (oM rfl (oM rfl (cal_inv h fun y2 hy2 h => oT (t_callE (slices_IndexFunc_Lapi_Field_api_Field_w hy2) hT (s2 rfl rfl) k2 ?_)))))))
 refine oV (v_geq rfl rfl) (oA rfl (rnf (w_ret ?_)))
 cases h
 exact ret_post (.tmp rfl .nil) k2 ⟨rfl, rfl⟩


theorem table_maker_automatic_w : ∀ {a_x : GTmk} {a_n_ : GNode} {b_a_x : Nat} {v_a_x1 : Vt} {r : Bool × GTmk}, table_maker_automatic a_x a_n_ = some r → Ctr Tryz.prog 111 [ptrv b_a_x (Fld.id ((Wr Vh) × GMod)), isv (a_n_)] [boxE b_a_x (((Wr.mk (Vh.mk v_a_x1 a_x.types.l.length)), a_x.m) : ((Wr Vh) × GMod)), vecE v_a_x1 (a_x.types.l : List GTyp)] (fun R H => R = oneOf [isv (r.1)] ∧ H = [boxE b_a_x (((Wr.mk (Vh.mk v_a_x1 r.2.types.l.length)), r.2.m)), vecE v_a_x1 (r.2.types.l)]) := by
 intro a_x a_n_ b_a_x v_a_x1 r h
 unfold table_maker_automatic at h
 refine spec_introD Tryz.func111 rfl fun w0 S0 hT => wsr (oT (t_boxIC (y := PtrB.mk b_a_x) rfl ptr_isv (oT (t_boxIC (y := a_n_) rfl hI (oA rfl (rnf (wsr (oV (v_loadIP (α := ((Wr Vh) × GMod)) ty94 rfl) (oV (v_nilCheck rfl) ?_)))))))))
 refine oV (v_fa rfl pt98_0_1 fd98_1) (oV (v_fa rfl GMod.f1 fd26_1) (oT (t_loadC (R := isv (a_x.m.tagging)) ty3 rfl .here hI (oV (v_eql rfl rfl) (oM rfl (rl_j (ι := Bool × GTmk) (γ := Unit) (fun q2 g2 => [(17, isv (q2.1))]) (fun q2 g2 => [boxE b_a_x (((Wr.mk (Vh.mk v_a_x1 q2.2.types.l.length)), q2.2.m) : ((Wr Vh) × GMod)), vecE v_a_x1 (q2.2.types.l : List GTyp)]) k2 h 6 rfl (fun q2 g2 h => ?_) (fun J3 h hJ3 => ?_)))))))
 ·refine oA rfl (rnf (w_ret ?_))
  cases h
  exact ret_post (.tmp rfl .nil) k2 ⟨rfl, rfl⟩
 refine rl_condM (j := 11) h rfl (fun g4 h => ?_) (fun g4 h => ?_)
 ·exact oK 11 rfl rfl rfl g4 (v_fi rfl GNode.f5 fd120_5 rfl (z := a_n_.fields)) (oK 11 rfl rfl rfl g4 (v_loadI ty41 rfl) (oK 11 rfl rfl rfl g4 (v_makeFunc (s1 rfl)) (cal_inv h fun y5 hy5 h => op_take rfl rfl (dj := 11) rfl g4 (t_callE (slices_ContainsFunc_Lapi_Field_api_Field_w hy5) hT (s2 rfl rfl) k2 (oK 11 rfl rfl rfl g4 (v_not rfl) (oV (v_pick_t rfl g4 rfl) (hJ3 _ () h _ (join_imp 6 rfl rfl (mod_cons (j := 17) rfl hI mod_nil) k2))))))))
 exact oP 11 rfl rfl g4 (oP 11 rfl rfl g4 (oP 11 rfl rfl g4 (oP 11 rfl rfl g4 (oP 11 rfl rfl g4 (oV (v_pick_f rfl g4 rfl) (hJ3 _ () h _ (join_imp 6 rfl rfl (mod_cons (j := 17) rfl hI mod_nil) k2)))))))


theorem table_maker_field_c1_w : ∀ {a_y : GFld} {a_a1 : GFld} {b_a_a1 : Nat} {r : Bool × GFld}, table_maker_field_c1 a_y a_a1 = some r → Ctr Tryz.prog 129 [isv (a_y), ptrv b_a_a1 (Fld.id GFld)] [boxE b_a_a1 (a_a1 : GFld)] (fun R H => R = oneOf [isv (r.1)] ∧ H = [boxE b_a_a1 (r.2)]) := by
 intro a_y a_a1 b_a_a1 r h
 unfold table_maker_field_c1 at h
 refine spec_introD Tryz.func129 rfl fun w0 S0 hT => wsr (oT (t_boxIC (y := a_y) rfl hI (oA rfl (rnf (wsr (oV (v_fi rfl GFld.f0 fd51_0 rfl (z := a_y.name)) (oV (v_loadI ty9 rfl) (oV (v_fa rfl GFld.f0 fd51_0) ?_))))))))
 refine oT (t_loadC (R := isv (a_a1.name)) ty9 rfl .here hI (oV (v_eqA eq9 rfl rfl) (oA rfl (rnf (w_ret ?_)))))
 cases h
 exact ret_post (.tmp rfl .nil) k1 ⟨rfl, rfl⟩


theorem slices_IndexFunc_Lapi_Field_api_Field_1_w : ∀ {a_s : (List GFld)} {a_f_0 : GFld} {b_a_f_0 : Nat} {r : Int × GFld}, slices_IndexFunc_Lapi_Field_api_Field_1 a_s a_f_0 = some r → Ctr Tryz.prog 137 [isv (a_s), clov 129 [ptrv b_a_f_0 (Fld.id GFld)]] [boxE b_a_f_0 (a_f_0 : GFld)] (fun R H => R = oneOf [isv (r.1)] ∧ H = [boxE b_a_f_0 (r.2)]) := by
 intro a_s a_f_0 b_a_f_0 r h
 unfold slices_IndexFunc_Lapi_Field_api_Field_1 at h
 refine spec_introD Tryz.func137 rfl fun w0 S0 hT => wsr (oA rfl (rnf (w_seq (wsr (oM rfl (oV (v_ln (l := a_s) rfl hI sl41) (oM rfl ?_)))))))
 refine rnf (w_block (w_lp (ι := Int × GFld) (γ := Unit) (fun q1 g1 => [(8, isv (q1.1))]) (fun q1 g1 => [boxE b_a_f_0 (q1.2 : GFld)]) h () (mod_cons (j := 8) rfl hI mod_nil) k1 (fun L2 q1 g1 Q9 h hL2 eL2 rL2 => wsr (oV (v_lss rfl rfl) (rnf (w_seq (w_condM h rfl (fun _ h => ?_) (fun _ h => ?_))))))))
 ·refine wkf (w_seq (w_block (wsr (oM rfl (oA rfl (rnf (wsr (oM rfl ?_))))))))
  refine oM rfl (oM rfl (cal_inv h fun y6 hy6 h => oV (v_ix (l := a_s) rfl hI rfl sl41 hy6) (oV (v_loadI ty51 rfl) (cal_inv h fun y7 hy7 h => oT (t_callC rfl (s1 rfl) (table_maker_field_c1_w hy7) hT k1 (fun R H' hR => ?_))))))
  obtain ⟨rfl, rfl⟩ := hR
  refine rnf (w_condM h rfl (fun _ h => ?_) (fun _ h => ?_))
  ·refine wsr (oM rfl (oA rfl (rnf (w_ret (ret_block (ret_nxt (rL2 _ (ret_block ?_))))))))
   refine ret_nxt ?_
   cases h
   exact ret_post (.tmp rfl .nil) k1 ⟨rfl, rfl⟩
  exact w_skip (fin_block (fin_nxt (w_region (ck_inv h fun q8 h => oV (v_add rfl rfl q8) (oM rfl (rl_nil (hL2 _ () h _ (jk 12 8 rfl rfl rfl))))))))
 refine w_exit (exi_nxt (eL2 _ _ (exi_block (fin_nxt (wsr (oA rfl (rnf (w_ret ?_))))))))
 cases h
 exact ret_post (.tmp rfl .nil) k1 ⟨rfl, rfl⟩

end Go.Proofs.YtiibmpdjkdjbiaaGreatDoor


namespace Go.Proofs.YtiibmpdjkdjbiaaGreatDoor
open Go.Sy
set_option maxRecDepth 4000
theorem slices_ContainsFunc_Lapi_Field_api_Field_1_w : ∀ {a_s : (List GFld)} {a_f_0 : GFld} {b_a_f_0 : Nat} {r : Bool × GFld}, slices_ContainsFunc_Lapi_Field_api_Field_1 a_s a_f_0 = some r → Ctr Tryz.prog 127 [isv (a_s), clov 129 [ptrv b_a_f_0 (Fld.id GFld)]] [boxE b_a_f_0 (a_f_0 : GFld)] (fun R H => R = oneOf [isv (r.1)] ∧ H = [boxE b_a_f_0 (r.2)]) := by
 intro a_s a_f_0 b_a_f_0 r h
 unfold slices_ContainsFunc_Lapi_Field_api_Field_1 at h
 refine spec_introD Tryz.func127 rfl fun w0 S0 hT => wsr (oA rfl (rnf (wsr (oM rfl (oM rfl (cal_inv h fun y1 hy1 h => oT (t_callE (slices_IndexFunc_Lapi_Field_api_Field_1_w hy1) hT (s2 rfl rfl) k1 ?_)))))))
 refine oV (v_geq rfl rfl) (oA rfl (rnf (w_ret ?_)))
 cases h
 exact ret_post (.tmp rfl .nil) k1 ⟨rfl, rfl⟩


theorem slices_Clone_Lbyte_byte_w : ∀ {a_s : (List UInt8)} {r : (List UInt8)}, slices_Clone_Lbyte_byte a_s = some r → Ctr Tryz.prog 138 [isv (a_s)] [] (fun R H => R = oneOf [isv (r)] ∧ H = []) := by
 intro a_s r h
 unfold slices_Clone_Lbyte_byte at h
 refine spec_introD Tryz.func138 rfl fun w0 S0 hT => wsr (oA rfl (rnf (w_seq (wsr (oM rfl (oV (v_eqnil (l := a_s) sl45 rfl rfl) (rnf ?_)))))))
 refine w_condQ h rfl (fun hn => by rw [hn]; rfl) (fun _ h => ?_) (fun h => ?_)
 ·refine wsr (oA rfl (rnf (w_ret (ret_nxt ?_))))
  cases h
  exact ret_post (.as rfl (nilv_isv (α := UInt8)) .nil) .nil ⟨rfl, rfl⟩
 refine wkf (wsr (oT (t_buildSlice (l := ([] : (List UInt8))) el45 .nil rfl rfl (oM rfl (rl_upd (upd_tok) (asr_inv h fun q3 h => oT (t_appC (l := ([] : (List UInt8))) (m := a_s) ap45_45 rfl hI rfl hI .here q3 fun t2 => oA rfl (rnf ?_))))))))
 refine w_ret ?_
 cases h
 exact ret_post (.as rfl appv_isv .nil) .nil ⟨rfl, rfl⟩


theorem bounds_Within_w : ∀ {a_c : GCon} {a_v : Int} {r : Bool}, bounds_Within a_c a_v = some r → Ctr Tryz.prog 139 [isv (a_c), isv (a_v)] [] (fun R H => R = oneOf [isv (r)] ∧ H = []) := by
 intro a_c a_v r h
 unfold bounds_Within at h
 refine spec_introD Tryz.func139 rfl fun w0 S0 hT => wsr (oT (t_boxIC (y := a_c) rfl hI (oA rfl (rnf (wsr (oV (v_fi rfl GCon.f0 fd39_0 rfl (z := a_c.has)) (oV (v_loadI ty4 rfl) (oV (v_not rfl) ?_))))))))
 refine oM rfl (rl_j (jb 29) je .nil h 21 rfl (fun q1 g1 h => ?_) (fun J2 h hJ2 => ?_))
 ·refine oA rfl (rnf (w_ret ?_))
  cases h
  exact ret_post (.tmp rfl .nil) .nil ⟨rfl, rfl⟩
 refine rl_condM (j := 8) h rfl (fun g3 h => ?_) (fun g3 h => ?_)
 ·refine oP 8 rfl rfl g3 (oP 8 rfl rfl g3 (oP 8 rfl rfl g3 (oP 8 rfl rfl g3 (op_passU rfl (dj := 12) rfl (op_passU rfl (dj := 12) rfl (op_passU rfl (dj := 12) rfl (op_passU rfl (dj := 12) rfl (oP 8 rfl rfl g3 ?_))))))))
  refine oP 8 rfl rfl g3 (op_passU rfl (dj := 18) rfl (op_passU rfl (dj := 18) rfl (op_passU rfl (dj := 18) rfl (op_passU rfl (dj := 18) rfl (op_passU rfl (dj := 22) rfl (op_passU rfl (dj := 22) rfl (op_passU rfl (dj := 22) rfl (op_passU rfl (dj := 22) rfl ?_))))))))
  exact op_passU rfl (dj := 18) rfl (oP 8 rfl rfl g3 (oV (v_pick_t rfl g3 rfl) (hJ2 _ () h _ (ji 21 29 rfl rfl rfl))))
 refine oK 8 rfl rfl rfl g3 (v_fi rfl GCon.f1 fd39_1 rfl (z := a_c.hasLow)) (oK 8 rfl rfl rfl g3 (v_loadI ty4 rfl) (oK 8 rfl rfl rfl g3 (v_not rfl) (oK 8 rfl rfl rfl g3 (v_move rfl) (rl_j (jb 17) je .nil h 5 rfl (fun q4 g4 h => ?_) (fun J5 h hJ5 => ?_)))))
 ·refine oK 8 rfl rfl rfl g3 (v_move rfl) (rl_j (jb 28) je .nil h 10 rfl (fun q7 g7 h => ?_) (fun J8 h hJ8 => ?_))
  ·exact oV (v_pick_f rfl g3 rfl) (hJ2 _ () h _ (ji 8 29 rfl rfl rfl))
  refine rl_condM (j := 18) h rfl (fun g9 h => ?_) (fun g9 h => ?_)
  ·refine oK 18 rfl rfl rfl g9 (v_fi rfl GCon.f2 fd39_2 rfl (z := a_c.hasHigh)) (oK 18 rfl rfl rfl g9 (v_loadI ty4 rfl) (oK 18 rfl rfl rfl g9 (v_not rfl) (oK 18 rfl rfl rfl g9 (v_move rfl) (rl_j (jb 27) je .nil h 5 rfl (fun q10 g10 h => ?_) (fun J11 h hJ11 => ?_)))))
   ·exact oK 8 rfl rfl rfl g3 (v_pick_t rfl g9 rfl) (hJ8 _ () h _ (ji 6 28 rfl rfl rfl))
   refine rl_condM (j := 22) h rfl (fun g12 h => ?_) (fun g12 h => ?_)
   ·exact oP 22 rfl rfl g12 (oP 22 rfl rfl g12 (oP 22 rfl rfl g12 (oP 22 rfl rfl g12 (oK 18 rfl rfl rfl g9 (v_pick_t rfl g12 rfl) (hJ11 _ () h _ (ji 5 27 rfl rfl rfl))))))
   exact oK 22 rfl rfl rfl g12 (v_move rfl) (oK 22 rfl rfl rfl g12 (v_fi rfl GCon.f5 fd39_5 rfl (z := a_c.high)) (oK 22 rfl rfl rfl g12 (v_loadI ty2 rfl) (oK 22 rfl rfl rfl g12 (v_leq rfl rfl) (oK 18 rfl rfl rfl g9 (v_pick_f rfl g12 rfl) (hJ11 _ () h _ (ji 5 27 rfl rfl rfl))))))
  refine oP 18 rfl rfl g9 (oP 18 rfl rfl g9 (oP 18 rfl rfl g9 (oP 18 rfl rfl g9 (op_passU rfl (dj := 22) rfl (op_passU rfl (dj := 22) rfl (op_passU rfl (dj := 22) rfl (op_passU rfl (dj := 22) rfl (oP 18 rfl rfl g9 ?_))))))))
  exact oK 8 rfl rfl rfl g3 (v_pick_f rfl g9 rfl) (hJ8 _ () h _ (ji 10 28 rfl rfl rfl))
 refine rl_condM (j := 12) h rfl (fun g6 h => ?_) (fun g6 h => ?_)
 ·exact oP 12 rfl rfl g6 (oP 12 rfl rfl g6 (oP 12 rfl rfl g6 (oP 12 rfl rfl g6 (oK 8 rfl rfl rfl g3 (v_pick_t rfl g6 rfl) (hJ5 _ () h _ (ji 5 17 rfl rfl rfl))))))
 exact oK 12 rfl rfl rfl g6 (v_move rfl) (oK 12 rfl rfl rfl g6 (v_fi rfl GCon.f4 fd39_4 rfl (z := a_c.low)) (oK 12 rfl rfl rfl g6 (v_loadI ty2 rfl) (oK 12 rfl rfl rfl g6 (v_geq rfl rfl) (oK 8 rfl rfl rfl g3 (v_pick_f rfl g6 rfl) (hJ5 _ () h _ (ji 5 17 rfl rfl rfl))))))


theorem utf8_word_Lbyte_w : ∀ {a_s : (List UInt8)} {r : UInt64}, utf8_word_Lbyte a_s = some r → Ctr Tryz.prog 146 [isv (a_s)] [] (fun R H => R = oneOf [isv (r)] ∧ H = []) := by
 intro a_s r h
 unfold utf8_word_Lbyte at h
 refine spec_introD Tryz.func146 rfl fun w0 S0 hT => wsr (oA rfl (rnf (w_seq (w_cond_f rfl rfl (wkf (w_seq (w_regionD (.v 0 (.v 1 (.v 2 (.v 3 (.v 4 (.v 5 (.v 6 (.v 7 (.v 8 (.v 9 (.v 10 (.v 11 (.v 12 (.v 13 (.v 14 (.v 15 (.v 16 (.v 17 (.v 18 (.v 19 (.v 20 (.v 21 (.v 22 (.v 23 (.v 24 (.v 25 (.v 26 (.v 27 (.v 28 (.v 29 (.v 30 (.v 31 (.v 32 (.v 33 (.v 34 (.v 35 (.v 36 (.v 37 (.v 38 (.v 39 (.v 40 (.v 41 (.v 42 (.v 43 (.v 44 (.v 45 (.v 46 .nil))))))))))))))))))))))))))))))))))))))))))))))) moOrd (by kernel_rfl) ?_)))))))
 refine rvm rfl rfl (cal_inv h fun y1 hy1 h => rd_v rfl (v_ix (l := a_s) rfl hI rfl sl45 hy1) (rd_v rfl (v_loadI ty5 rfl) (rd_v rfl (v_u8u64 Tryz.underlying5 Tryz.underlying58 rfl) (rvm rfl rfl (cal_inv h fun y2 hy2 h => rd_v rfl (v_ix (l := a_s) rfl hI rfl sl45 hy2) (rd_v rfl (v_loadI ty5 rfl) ?_))))))
 refine rd_v rfl (v_u8u64 Tryz.underlying5 Tryz.underlying58 rfl) (asr_inv h fun q3 h => rd_v rfl (v_shl64 rfl rfl q3) (rd_v rfl (v_or64 rfl rfl) (rvm rfl rfl (cal_inv h fun y4 hy4 h => rd_v rfl (v_ix (l := a_s) rfl hI rfl sl45 hy4) (rd_v rfl (v_loadI ty5 rfl) (rd_v rfl (v_u8u64 Tryz.underlying5 Tryz.underlying58 rfl) ?_))))))
 refine asr_inv h fun q5 h => rd_v rfl (v_shl64 rfl rfl q5) (rd_v rfl (v_or64 rfl rfl) (rvm rfl rfl (cal_inv h fun y6 hy6 h => rd_v rfl (v_ix (l := a_s) rfl hI rfl sl45 hy6) (rd_v rfl (v_loadI ty5 rfl) (rd_v rfl (v_u8u64 Tryz.underlying5 Tryz.underlying58 rfl) (asr_inv h fun q7 h => ?_))))))
 refine rd_v rfl (v_shl64 rfl rfl q7) (rd_v rfl (v_or64 rfl rfl) (rvm rfl rfl (cal_inv h fun y8 hy8 h => rd_v rfl (v_ix (l := a_s) rfl hI rfl sl45 hy8) (rd_v rfl (v_loadI ty5 rfl) (rd_v rfl (v_u8u64 Tryz.underlying5 Tryz.underlying58 rfl) (asr_inv h fun q9 h => rd_v rfl (v_shl64 rfl rfl q9) ?_))))))
 refine rd_v rfl (v_or64 rfl rfl) (rvm rfl rfl (cal_inv h fun y10 hy10 h => rd_v rfl (v_ix (l := a_s) rfl hI rfl sl45 hy10) (rd_v rfl (v_loadI ty5 rfl) (rd_v rfl (v_u8u64 Tryz.underlying5 Tryz.underlying58 rfl) (asr_inv h fun q11 h => rd_v rfl (v_shl64 rfl rfl q11) (rd_v rfl (v_or64 rfl rfl) ?_))))))
 refine rvm rfl rfl (cal_inv h fun y12 hy12 h => rd_v rfl (v_ix (l := a_s) rfl hI rfl sl45 hy12) (rd_v rfl (v_loadI ty5 rfl) (rd_v rfl (v_u8u64 Tryz.underlying5 Tryz.underlying58 rfl) (asr_inv h fun q13 h => rd_v rfl (v_shl64 rfl rfl q13) (rd_v rfl (v_or64 rfl rfl) (rvm rfl rfl ?_))))))
 refine cal_inv h fun y14 hy14 h => rd_v rfl (v_ix (l := a_s) rfl hI rfl sl45 hy14) (rd_v rfl (v_loadI ty5 rfl) (rd_v rfl (v_u8u64 Tryz.underlying5 Tryz.underlying58 rfl) (asr_inv h fun q15 h => rd_v rfl (v_shl64 rfl rfl q15) (rd_v rfl (v_or64 rfl rfl) (rd_v rfl (v_assign rfl) (rd_nil ?_))))))
 refine fin_nxt (w_ret ?_)
 cases h
 exact ret_post (.tmp rfl .nil) .nil ⟨rfl, rfl⟩


theorem utf8_Valid_w : ∀ {a_p : (List UInt8)} {r : Bool}, utf8_Valid a_p = some r → Ctr Tryz.prog 140 [isv (a_p)] [] (fun R H => R = oneOf [isv (r)] ∧ H = []) := by
 intro a_p r h
 unfold utf8_Valid at h
 refine spec_introD Tryz.func140 rfl fun w0 S0 hT => wsr (oA rfl (rnf (wsr (oM rfl (oM rfl (oV (v_ln (l := a_p) rfl hI sl45) (oM rfl ?_)))))))
 refine oV (v_ln (l := a_p) rfl hI sl45) (asd_inv h fun q1 h => oV (v_sl3 (l := a_p) rfl hI sl45 rfl rfl q1.1 q1.2) (oA rfl (rnf (w_seq (w_block (w_lp (ι := (List UInt8)) (γ := Unit) (fun q2 g2 => [(0, isv (q2))]) (fun q2 g2 => []) h () (mod_cons (j := 0) rfl hI mod_nil) .nil (fun L3 q2 g2 Q194 h hL3 eL3 rL3 => w_seq ?_)))))))
 refine wsr (oM rfl (oV (v_ln (l := q2) rfl hI sl45) (oV (v_gtr rfl rfl) (rnf (w_condM h rfl (fun _ h => ?_) (fun _ h => ?_))))))
 ·refine wkf (w_block (wsr (oM rfl (cal_inv h fun y99 hy99 h => oV (v_ix (l := q2) rfl hI rfl sl45 hy99) (oV (v_loadI ty5 rfl) (oA rfl (rnf ?_)))))))
  refine w_seq (wsr (oM rfl (oV (v_lss8 rfl rfl) (rnf (w_condM h rfl (fun _ h => ?_) (fun _ h => ?_))))))
  ·refine wsr (oM rfl (asd_inv h fun q100 h => oV (v_sl (l := q2) rfl hI sl45 (.inr ⟨_, rfl, rfl⟩) (.inl ⟨rfl, rfl⟩) q100.1 q100.2.1 q100.2.2) (oA rfl (rnf (w_seq (wsr (oM rfl ?_)))))))
   refine oV (v_ln (l := ((q2.take ((q2.length : Int)).toNat).drop ((1 : Int)).toNat)) rfl hI sl45) (oV (v_gtr rfl rfl) (oM rfl (rl_j (jb 31) je .nil h 5 rfl (fun q101 g101 h => ?_) (fun J102 h hJ102 => ?_))))
   ·refine rnf (w_J (ι := (List UInt8)) (γ := Unit) (fun q105 g105 => [(0, isv (q105))]) (fun q105 g105 => []) .nil h (fun q105 g105 h => ?_) (fun J106 h hJ106 => ?_))
    ·exact w_exit (exi_nxt (exi_block (hL3 _ () h _ (ji 19 0 rfl rfl rfl))))
    refine w_condM h rfl (fun _ h => ?_) (fun _ h => ?_)
    ·refine wsr (oM rfl (asd_inv h fun q107 h => oV (v_sl (l := ((q2.take ((q2.length : Int)).toNat).drop ((1 : Int)).toNat)) rfl hI sl45 (.inr ⟨_, rfl, rfl⟩) (.inl ⟨rfl, rfl⟩) q107.1 q107.2.1 q107.2.2) (oA rfl (rnf (w_seq (w_regionD (.v 0 (.v 1 (.v 2 (.v 3 (.v 4 (.v 6 (.v 7 (.t 5 (.t 8 (.v 9 (.v 10 (.v 11 (.v 12 .nil))))))))))))) moOrd (by kernel_rfl) ?_))))))
     refine rvm rfl rfl (rd_v rfl (v_ln (l := ((((q2.take ((q2.length : Int)).toNat).drop ((1 : Int)).toNat).take ((((q2.take ((q2.length : Int)).toNat).drop ((1 : Int)).toNat).length : Int)).toNat).drop ((8 : Int)).toNat)) rfl hI sl45) (rd_v rfl (v_gtr rfl rfl) (rvm rfl rfl (rd_j (jb 46) je .nil h 9 rfl (fun q108 g108 h => ?_) (fun J109 h hJ109 => ?_)))))
     ·refine rd_nil (fin_nxt (w_condM h rfl (fun _ h => ?_) (fun _ h => ?_)))
      ·refine wsr (oM rfl (asd_inv h fun q114 h => oV (v_sl (l := ((((q2.take ((q2.length : Int)).toNat).drop ((1 : Int)).toNat).take ((((q2.take ((q2.length : Int)).toNat).drop ((1 : Int)).toNat).length : Int)).toNat).drop ((8 : Int)).toNat)) rfl hI sl45 (.inr ⟨_, rfl, rfl⟩) (.inl ⟨rfl, rfl⟩) q114.1 q114.2.1 q114.2.2) (oA rfl (rnf (w_block (w_lp (ι := (List UInt8)) (γ := Unit) (fun q115 g115 => [(0, isv (q115))]) (fun q115 g115 => []) h () (mod_cons (j := 0) rfl hI mod_nil) .nil (fun L116 q115 g115 Q139 h hL116 eL116 rL116 => w_seq ?_)))))))
       refine w_seq (w_regionD (.v 0 (.v 1 (.v 2 (.v 3 (.v 4 (.v 6 (.v 7 (.v 10 (.v 11 (.v 13 (.v 14 (.t 5 (.t 8 (.v 9 (.t 12 (.t 15 (.v 16 (.v 17 (.v 18 (.v 19 (.v 20 .nil))))))))))))))))))))) moOrd (by kernel_rfl) ?_)
       refine rvm rfl rfl (rd_v rfl (v_ln (l := q115) rfl hI sl45) (rd_v rfl (v_gtr rfl rfl) (rvm rfl rfl (rd_j (jb 69) je .nil h 17 rfl (fun q128 g128 h => ?_) (fun J129 h hJ129 => ?_)))))
       ·refine rd_nil (fin_nxt (w_condM h rfl (fun _ h => ?_) (fun _ h => ?_)))
        ·refine wkf (w_block (w_region (oM rfl (asd_inv h fun q138 h => oV (v_sl (l := q115) rfl hI sl45 (.inr ⟨_, rfl, rfl⟩) (.inl ⟨rfl, rfl⟩) q138.1 q138.2.1 q138.2.2) (oA rfl (rl_nil (fin_block ?_)))))))
         exact hL116 _ () h _ (ji 9 0 rfl rfl rfl)
        exact w_exit (exi_nxt (eL116 _ _ (exi_block (hJ106 _ () h _ (ji 17 0 rfl rfl rfl)))))
       refine rd_condM (j := 52) h rfl (fun g130 h => ?_) (fun g130 h => ?_)
       ·refine rvt 52 rfl rfl rfl g130 (v_move rfl) (rvt 52 rfl rfl rfl g130 (v_move rfl) (asd_inv h fun q131 h => rvt 52 rfl rfl rfl g130 (v_sl (l := q115) rfl hI sl45 (.inr ⟨_, rfl, rfl⟩) (.inl ⟨rfl, rfl⟩) q131.1 q131.2.1 q131.2.2) (rvt 52 rfl rfl rfl g130 (v_move rfl) (asd_inv h fun q132 h => rvt 52 rfl rfl rfl g130 (v_sl (l := q115) rfl hI sl45 (.inr ⟨_, rfl, rfl⟩) (.inl ⟨rfl, rfl⟩) q132.1 q132.2.1 q132.2.2) (rvt 52 rfl rfl rfl g130 (v_move rfl) (asd_inv h fun q133 h => ?_))))))
        refine rvt 52 rfl rfl rfl g130 (v_sl (l := q115) rfl hI sl45 (.inr ⟨_, rfl, rfl⟩) (.inl ⟨rfl, rfl⟩) q133.1 q133.2.1 q133.2.2) (cal_inv h fun y134 hy134 h => rd_tt rfl rfl rfl (dj := 52) rfl g130 (t_callE (utf8_word_Lbyte_w hy134) hT (s1 rfl) .nil (cal_inv h fun y135 hy135 h => rd_tt rfl rfl rfl (dj := 52) rfl g130 (t_callE (utf8_word_Lbyte_w hy135) hT (s1 rfl) .nil (rvt 52 rfl rfl rfl g130 (v_or64 rfl rfl) (cal_inv h fun y136 hy136 h => rd_tt rfl rfl rfl (dj := 52) rfl g130 (t_callE (utf8_word_Lbyte_w hy136) hT (s1 rfl) .nil (cal_inv h fun y137 hy137 h => ?_))))))))
        exact rd_tt rfl rfl rfl (dj := 52) rfl g130 (t_callE (utf8_word_Lbyte_w hy137) hT (s1 rfl) .nil (rvt 52 rfl rfl rfl g130 (v_or64 rfl rfl) (rvt 52 rfl rfl rfl g130 (v_or64 rfl rfl) (rvt 52 rfl rfl rfl g130 (v_and64 rfl rfl) (rvt 52 rfl rfl rfl g130 (v_eql64 rfl rfl) (rd_v rfl (v_pick_t rfl g130 rfl) (hJ129 _ () h _ (ji 17 69 rfl rfl rfl))))))))
       refine rpv 52 rfl rfl rfl g130 (rpv 52 rfl rfl rfl g130 (rpv 52 rfl rfl rfl g130 (rpv 52 rfl rfl rfl g130 (rpv 52 rfl rfl rfl g130 (rpv 52 rfl rfl rfl g130 (rpv 52 rfl rfl rfl g130 (rd_passT rfl rfl (dj := 52) rfl g130 (rd_passT rfl rfl (dj := 52) rfl g130 ?_))))))))
       exact rpv 52 rfl rfl rfl g130 (rd_passT rfl rfl (dj := 52) rfl g130 (rd_passT rfl rfl (dj := 52) rfl g130 (rpv 52 rfl rfl rfl g130 (rpv 52 rfl rfl rfl g130 (rpv 52 rfl rfl rfl g130 (rpv 52 rfl rfl rfl g130 (rd_v rfl (v_pick_f rfl g130 rfl) (hJ129 _ () h _ (ji 17 69 rfl rfl rfl)))))))))
      exact w_skip (hJ106 _ () h _ (ji 8 0 rfl rfl rfl))
     refine rd_condM (j := 37) h rfl (fun g110 h => ?_) (fun g110 h => ?_)
     ·refine rvt 37 rfl rfl rfl g110 (v_move rfl) (rvt 37 rfl rfl rfl g110 (v_move rfl) (asd_inv h fun q111 h => rvt 37 rfl rfl rfl g110 (v_sl (l := ((((q2.take ((q2.length : Int)).toNat).drop ((1 : Int)).toNat).take ((((q2.take ((q2.length : Int)).toNat).drop ((1 : Int)).toNat).length : Int)).toNat).drop ((8 : Int)).toNat)) rfl hI sl45 (.inr ⟨_, rfl, rfl⟩) (.inl ⟨rfl, rfl⟩) q111.1 q111.2.1 q111.2.2) (cal_inv h fun y112 hy112 h => rd_tt rfl rfl rfl (dj := 37) rfl g110 (t_callE (utf8_word_Lbyte_w hy112) hT (s1 rfl) .nil (cal_inv h fun y113 hy113 h => rd_tt rfl rfl rfl (dj := 37) rfl g110 (t_callE (utf8_word_Lbyte_w hy113) hT (s1 rfl) .nil (rvt 37 rfl rfl rfl g110 (v_or64 rfl rfl) ?_)))))))
      exact rvt 37 rfl rfl rfl g110 (v_and64 rfl rfl) (rvt 37 rfl rfl rfl g110 (v_eql64 rfl rfl) (rd_v rfl (v_pick_t rfl g110 rfl) (hJ109 _ () h _ (ji 9 46 rfl rfl rfl))))
     refine rpv 37 rfl rfl rfl g110 (rpv 37 rfl rfl rfl g110 (rpv 37 rfl rfl rfl g110 (rd_passT rfl rfl (dj := 37) rfl g110 (rd_passT rfl rfl (dj := 37) rfl g110 (rpv 37 rfl rfl rfl g110 (rpv 37 rfl rfl rfl g110 (rpv 37 rfl rfl rfl g110 (rd_v rfl (v_pick_f rfl g110 rfl) ?_))))))))
     exact hJ109 _ () h _ (ji 9 46 rfl rfl rfl)
    exact w_skip (hJ106 _ () h _ (ji 0 0 rfl rfl rfl))
   refine rl_condM (j := 26) h rfl (fun g103 h => ?_) (fun g103 h => ?_)
   ·exact oK 26 rfl rfl rfl g103 (v_move rfl) (cal_inv h fun y104 hy104 h => op_take rfl rfl (dj := 26) rfl g103 (t_callE (utf8_word_Lbyte_w hy104) hT (s1 rfl) .nil (oK 26 rfl rfl rfl g103 (v_and64 rfl rfl) (oK 26 rfl rfl rfl g103 (v_eql64 rfl rfl) (oV (v_pick_t rfl g103 rfl) (hJ102 _ () h _ (ji 5 31 rfl rfl rfl)))))))
   exact oP 26 rfl rfl g103 (oP 26 rfl rfl g103 (oP 26 rfl rfl g103 (oP 26 rfl rfl g103 (oV (v_pick_f rfl g103 rfl) (hJ102 _ () h _ (ji 5 31 rfl rfl rfl))))))
  refine wkf (wsr (oM rfl (oV (v_t1 gl_first ar185 rfl) (oV (v_t1l hT ty5 rfl _ gl_acceptRanges) (oA rfl (rnf (wsr (oM rfl ?_))))))))
  refine oV (v_and8 rfl rfl) (oV (v_u8i Tryz.underlying5 Tryz.underlying3 rfl) (oA rfl (rnf (wsr (oM rfl (asr_inv h fun q140 h => oV (v_shr8 rfl rfl q140) (asr_inv h fun q141 h => ?_)))))))
  refine oV (v_t2 gl_acceptRanges ar188 rfl q141) (oV (v_t2l hT ty187 rfl q141 _ gl_first) (oT (t_alloc _ ze187 fun b142 => oT (t_storeC (y' := ((tab2 (shr8 (tab1 y99) (4 : UInt64).toNat)) : GAcc)) ty187 rfl rfl hI .here rfl (rl_upd (upd_imm 6 .here rfl) (rnf (wsr (oM rfl (rnf ?_)))))))))
  refine w_block (wsr (oV (v_eql rfl rfl) (oA rfl (rnf (w_condM h rfl (fun _ h => ?_) (fun _ h => ?_))))))
  ·refine w_seq (w_seq (w_regionD (.v 0 (.v 1 (.v 2 (.v 3 (.v 4 (.v 5 (.v 6 (.v 7 (.v 8 (.v 9 (.v 10 (.v 11 (.v 12 (.v 13 (.v 14 (.v 15 (.v 16 (.v 17 (.v 18 .nil))))))))))))))))))) moOrd (by kernel_rfl) ?_))
   refine rvm rfl rfl (rd_v rfl (v_ln (l := q2) rfl hI sl45) (rd_v rfl (v_lss rfl rfl) (rvm rfl rfl (rd_j (jb 95) je .nil h 7 rfl (fun q143 g143 h => ?_) (fun J144 h hJ144 => ?_)))))
   ·refine rvm rfl rfl (rd_j (jb 103) je .nil h 7 rfl (fun q147 g147 h => ?_) (fun J148 h hJ148 => ?_))
    ·refine rd_nil (fin_nxt (w_condM h rfl (fun _ h => ?_) (fun _ h => ?_)))
     ·refine wsr (oA rfl (rnf (w_ret (ret_nxt (ret_block (ret_block (rL3 _ (ret_block ?_))))))))
      refine ret_nxt ?_
      cases h
      exact ret_post (.tmp rfl .nil) .nil ⟨rfl, rfl⟩
     refine wkf (w_region (oM rfl (asd_inv h fun q151 h => oV (v_sl (l := q2) rfl hI sl45 (.inr ⟨_, rfl, rfl⟩) (.inl ⟨rfl, rfl⟩) q151.1 q151.2.1 q151.2.2) (oA rfl (rl_nil (fin_block (fin_block ?_)))))))
     exact hL3 _ () h _ (ji 37 0 rfl rfl rfl)
    refine rd_condM (j := 96) h rfl (fun g149 h => ?_) (fun g149 h => ?_)
    ·exact rpv 96 rfl rfl rfl g149 (rpv 96 rfl rfl rfl g149 (rpv 96 rfl rfl rfl g149 (rpv 96 rfl rfl rfl g149 (rpv 96 rfl rfl rfl g149 (rpv 96 rfl rfl rfl g149 (rd_v rfl (v_pick_t rfl g149 rfl) (hJ148 _ () h _ (ji 7 103 rfl rfl rfl))))))))
    exact rvt 96 rfl rfl rfl g149 (v_fi rfl GAcc.f1 fd187_1 rfl (z := (tab2 (shr8 (tab1 y99) (4 : UInt64).toNat)).hi)) (rvt 96 rfl rfl rfl g149 (v_loadI ty5 rfl) (rvt 96 rfl rfl rfl g149 (v_move rfl) (cal_inv h fun y150 hy150 h => rvt 96 rfl rfl rfl g149 (v_ix (l := q2) rfl hI rfl sl45 hy150) (rvt 96 rfl rfl rfl g149 (v_loadI ty5 rfl) (rvt 96 rfl rfl rfl g149 (v_lss8 rfl rfl) (rd_v rfl (v_pick_f rfl g149 rfl) (hJ148 _ () h _ (ji 7 103 rfl rfl rfl))))))))
   refine rd_condM (j := 88) h rfl (fun g145 h => ?_) (fun g145 h => ?_)
   ·exact rpv 88 rfl rfl rfl g145 (rpv 88 rfl rfl rfl g145 (rpv 88 rfl rfl rfl g145 (rpv 88 rfl rfl rfl g145 (rpv 88 rfl rfl rfl g145 (rpv 88 rfl rfl rfl g145 (rd_v rfl (v_pick_t rfl g145 rfl) (hJ144 _ () h _ (ji 7 95 rfl rfl rfl))))))))
   exact rvt 88 rfl rfl rfl g145 (v_move rfl) (cal_inv h fun y146 hy146 h => rvt 88 rfl rfl rfl g145 (v_ix (l := q2) rfl hI rfl sl45 hy146) (rvt 88 rfl rfl rfl g145 (v_loadI ty5 rfl) (rvt 88 rfl rfl rfl g145 (v_fi rfl GAcc.f0 fd187_0 rfl (z := (tab2 (shr8 (tab1 y99) (4 : UInt64).toNat)).lo)) (rvt 88 rfl rfl rfl g145 (v_loadI ty5 rfl) (rvt 88 rfl rfl rfl g145 (v_lss8 rfl rfl) (rd_v rfl (v_pick_f rfl g145 rfl) (hJ144 _ () h _ (ji 7 95 rfl rfl rfl))))))))
  refine wsr (oV (v_eql rfl rfl) (oA rfl (rnf (w_condM h rfl (fun _ h => ?_) (fun _ h => ?_)))))
  ·refine w_seq (w_seq (w_regionD (.v 0 (.v 1 (.v 2 (.v 3 (.v 4 (.v 5 (.v 6 (.v 7 (.v 8 (.v 9 (.v 10 (.v 11 (.v 12 (.v 13 (.v 14 (.v 15 (.v 16 (.v 17 (.v 18 (.v 19 (.v 20 (.v 21 (.v 22 (.v 23 (.v 24 (.v 25 (.v 26 (.v 27 (.v 28 (.v 29 (.v 30 .nil))))))))))))))))))))))))))))))) moOrd (by kernel_rfl) ?_))
   refine rvm rfl rfl (rd_v rfl (v_ln (l := q2) rfl hI sl45) (rd_v rfl (v_lss rfl rfl) (rvm rfl rfl (rd_j (jb 118) je .nil h 7 rfl (fun q152 g152 h => ?_) (fun J153 h hJ153 => ?_)))))
   ·refine rvm rfl rfl (rd_j (jb 126) je .nil h 7 rfl (fun q156 g156 h => ?_) (fun J157 h hJ157 => ?_))
    ·refine rvm rfl rfl (rd_j (jb 132) je .nil h 5 rfl (fun q160 g160 h => ?_) (fun J161 h hJ161 => ?_))
     ·refine rvm rfl rfl (rd_j (jb 138) je .nil h 5 rfl (fun q164 g164 h => ?_) (fun J165 h hJ165 => ?_))
      ·refine rd_nil (fin_nxt (w_condM h rfl (fun _ h => ?_) (fun _ h => ?_)))
       ·refine wsr (oA rfl (rnf (w_ret (ret_nxt (ret_block (ret_block (rL3 _ (ret_block ?_))))))))
        refine ret_nxt ?_
        cases h
        exact ret_post (.tmp rfl .nil) .nil ⟨rfl, rfl⟩
       refine wkf (w_region (oM rfl (asd_inv h fun q168 h => oV (v_sl (l := q2) rfl hI sl45 (.inr ⟨_, rfl, rfl⟩) (.inl ⟨rfl, rfl⟩) q168.1 q168.2.1 q168.2.2) (oA rfl (rl_nil (fin_block (fin_block ?_)))))))
       exact hL3 _ () h _ (ji 43 0 rfl rfl rfl)
      refine rd_condM (j := 133) h rfl (fun g166 h => ?_) (fun g166 h => ?_)
      ·exact rpv 133 rfl rfl rfl g166 (rpv 133 rfl rfl rfl g166 (rpv 133 rfl rfl rfl g166 (rpv 133 rfl rfl rfl g166 (rd_v rfl (v_pick_t rfl g166 rfl) (hJ165 _ () h _ (ji 5 138 rfl rfl rfl))))))
      exact rvt 133 rfl rfl rfl g166 (v_move rfl) (cal_inv h fun y167 hy167 h => rvt 133 rfl rfl rfl g166 (v_ix (l := q2) rfl hI rfl sl45 hy167) (rvt 133 rfl rfl rfl g166 (v_loadI ty5 rfl) (rvt 133 rfl rfl rfl g166 (v_lss8 rfl rfl) (rd_v rfl (v_pick_f rfl g166 rfl) (hJ165 _ () h _ (ji 5 138 rfl rfl rfl))))))
     refine rd_condM (j := 127) h rfl (fun g162 h => ?_) (fun g162 h => ?_)
     ·exact rpv 127 rfl rfl rfl g162 (rpv 127 rfl rfl rfl g162 (rpv 127 rfl rfl rfl g162 (rpv 127 rfl rfl rfl g162 (rd_v rfl (v_pick_t rfl g162 rfl) (hJ161 _ () h _ (ji 5 132 rfl rfl rfl))))))
     exact rvt 127 rfl rfl rfl g162 (v_move rfl) (cal_inv h fun y163 hy163 h => rvt 127 rfl rfl rfl g162 (v_ix (l := q2) rfl hI rfl sl45 hy163) (rvt 127 rfl rfl rfl g162 (v_loadI ty5 rfl) (rvt 127 rfl rfl rfl g162 (v_lss8 rfl rfl) (rd_v rfl (v_pick_f rfl g162 rfl) (hJ161 _ () h _ (ji 5 132 rfl rfl rfl))))))
    refine rd_condM (j := 119) h rfl (fun g158 h => ?_) (fun g158 h => ?_)
    ·exact rpv 119 rfl rfl rfl g158 (rpv 119 rfl rfl rfl g158 (rpv 119 rfl rfl rfl g158 (rpv 119 rfl rfl rfl g158 (rpv 119 rfl rfl rfl g158 (rpv 119 rfl rfl rfl g158 (rd_v rfl (v_pick_t rfl g158 rfl) (hJ157 _ () h _ (ji 7 126 rfl rfl rfl))))))))
    exact rvt 119 rfl rfl rfl g158 (v_fi rfl GAcc.f1 fd187_1 rfl (z := (tab2 (shr8 (tab1 y99) (4 : UInt64).toNat)).hi)) (rvt 119 rfl rfl rfl g158 (v_loadI ty5 rfl) (rvt 119 rfl rfl rfl g158 (v_move rfl) (cal_inv h fun y159 hy159 h => rvt 119 rfl rfl rfl g158 (v_ix (l := q2) rfl hI rfl sl45 hy159) (rvt 119 rfl rfl rfl g158 (v_loadI ty5 rfl) (rvt 119 rfl rfl rfl g158 (v_lss8 rfl rfl) (rd_v rfl (v_pick_f rfl g158 rfl) (hJ157 _ () h _ (ji 7 126 rfl rfl rfl))))))))
   refine rd_condM (j := 111) h rfl (fun g154 h => ?_) (fun g154 h => ?_)
   ·exact rpv 111 rfl rfl rfl g154 (rpv 111 rfl rfl rfl g154 (rpv 111 rfl rfl rfl g154 (rpv 111 rfl rfl rfl g154 (rpv 111 rfl rfl rfl g154 (rpv 111 rfl rfl rfl g154 (rd_v rfl (v_pick_t rfl g154 rfl) (hJ153 _ () h _ (ji 7 118 rfl rfl rfl))))))))
   exact rvt 111 rfl rfl rfl g154 (v_move rfl) (cal_inv h fun y155 hy155 h => rvt 111 rfl rfl rfl g154 (v_ix (l := q2) rfl hI rfl sl45 hy155) (rvt 111 rfl rfl rfl g154 (v_loadI ty5 rfl) (rvt 111 rfl rfl rfl g154 (v_fi rfl GAcc.f0 fd187_0 rfl (z := (tab2 (shr8 (tab1 y99) (4 : UInt64).toNat)).lo)) (rvt 111 rfl rfl rfl g154 (v_loadI ty5 rfl) (rvt 111 rfl rfl rfl g154 (v_lss8 rfl rfl) (rd_v rfl (v_pick_f rfl g154 rfl) (hJ153 _ () h _ (ji 7 118 rfl rfl rfl))))))))
  refine wsr (oV (v_eql rfl rfl) (oA rfl (rnf (w_condM h rfl (fun _ h => ?_) (fun _ h => ?_)))))
  ·refine w_seq (w_seq (w_regionD (.v 0 (.v 1 (.v 2 (.v 3 (.v 4 (.v 5 (.v 6 (.v 7 (.v 8 (.v 9 (.v 10 (.v 11 (.v 12 (.v 13 (.v 14 (.v 15 (.v 16 (.v 17 (.v 18 (.v 19 (.v 20 (.v 21 (.v 22 (.v 23 (.v 24 (.v 25 (.v 26 (.v 27 (.v 28 (.v 29 (.v 30 (.v 31 (.v 32 (.v 33 (.v 34 (.v 35 (.v 36 (.v 37 (.v 38 (.v 39 (.v 40 (.v 41 (.v 42 .nil))))))))))))))))))))))))))))))))))))))))))) moOrd (by kernel_rfl) ?_))
   refine rvm rfl rfl (rd_v rfl (v_ln (l := q2) rfl hI sl45) (rd_v rfl (v_lss rfl rfl) (rvm rfl rfl (rd_j (jb 153) je .nil h 7 rfl (fun q169 g169 h => ?_) (fun J170 h hJ170 => ?_)))))
   ·refine rvm rfl rfl (rd_j (jb 161) je .nil h 7 rfl (fun q173 g173 h => ?_) (fun J174 h hJ174 => ?_))
    ·refine rvm rfl rfl (rd_j (jb 167) je .nil h 5 rfl (fun q177 g177 h => ?_) (fun J178 h hJ178 => ?_))
     ·refine rvm rfl rfl (rd_j (jb 173) je .nil h 5 rfl (fun q181 g181 h => ?_) (fun J182 h hJ182 => ?_))
      ·refine rvm rfl rfl (rd_j (jb 179) je .nil h 5 rfl (fun q185 g185 h => ?_) (fun J186 h hJ186 => ?_))
       ·refine rvm rfl rfl (rd_j (jb 185) je .nil h 5 rfl (fun q189 g189 h => ?_) (fun J190 h hJ190 => ?_))
        ·refine rd_nil (fin_nxt (w_condM h rfl (fun _ h => ?_) (fun _ h => ?_)))
         ·refine wsr (oA rfl (rnf (w_ret (ret_nxt (ret_block (ret_block (rL3 _ (ret_block ?_))))))))
          refine ret_nxt ?_
          cases h
          exact ret_post (.tmp rfl .nil) .nil ⟨rfl, rfl⟩
         refine wkf (w_region (oM rfl (asd_inv h fun q193 h => oV (v_sl (l := q2) rfl hI sl45 (.inr ⟨_, rfl, rfl⟩) (.inl ⟨rfl, rfl⟩) q193.1 q193.2.1 q193.2.2) (oA rfl (rl_nil (fin_block (fin_block ?_)))))))
         exact hL3 _ () h _ (ji 49 0 rfl rfl rfl)
        refine rd_condM (j := 180) h rfl (fun g191 h => ?_) (fun g191 h => ?_)
        ·exact rpv 180 rfl rfl rfl g191 (rpv 180 rfl rfl rfl g191 (rpv 180 rfl rfl rfl g191 (rpv 180 rfl rfl rfl g191 (rd_v rfl (v_pick_t rfl g191 rfl) (hJ190 _ () h _ (ji 5 185 rfl rfl rfl))))))
        exact rvt 180 rfl rfl rfl g191 (v_move rfl) (cal_inv h fun y192 hy192 h => rvt 180 rfl rfl rfl g191 (v_ix (l := q2) rfl hI rfl sl45 hy192) (rvt 180 rfl rfl rfl g191 (v_loadI ty5 rfl) (rvt 180 rfl rfl rfl g191 (v_lss8 rfl rfl) (rd_v rfl (v_pick_f rfl g191 rfl) (hJ190 _ () h _ (ji 5 185 rfl rfl rfl))))))
       refine rd_condM (j := 174) h rfl (fun g187 h => ?_) (fun g187 h => ?_)
       ·exact rpv 174 rfl rfl rfl g187 (rpv 174 rfl rfl rfl g187 (rpv 174 rfl rfl rfl g187 (rpv 174 rfl rfl rfl g187 (rd_v rfl (v_pick_t rfl g187 rfl) (hJ186 _ () h _ (ji 5 179 rfl rfl rfl))))))
       exact rvt 174 rfl rfl rfl g187 (v_move rfl) (cal_inv h fun y188 hy188 h => rvt 174 rfl rfl rfl g187 (v_ix (l := q2) rfl hI rfl sl45 hy188) (rvt 174 rfl rfl rfl g187 (v_loadI ty5 rfl) (rvt 174 rfl rfl rfl g187 (v_lss8 rfl rfl) (rd_v rfl (v_pick_f rfl g187 rfl) (hJ186 _ () h _ (ji 5 179 rfl rfl rfl))))))
      refine rd_condM (j := 168) h rfl (fun g183 h => ?_) (fun g183 h => ?_)
      ·exact rpv 168 rfl rfl rfl g183 (rpv 168 rfl rfl rfl g183 (rpv 168 rfl rfl rfl g183 (rpv 168 rfl rfl rfl g183 (rd_v rfl (v_pick_t rfl g183 rfl) (hJ182 _ () h _ (ji 5 173 rfl rfl rfl))))))
      exact rvt 168 rfl rfl rfl g183 (v_move rfl) (cal_inv h fun y184 hy184 h => rvt 168 rfl rfl rfl g183 (v_ix (l := q2) rfl hI rfl sl45 hy184) (rvt 168 rfl rfl rfl g183 (v_loadI ty5 rfl) (rvt 168 rfl rfl rfl g183 (v_lss8 rfl rfl) (rd_v rfl (v_pick_f rfl g183 rfl) (hJ182 _ () h _ (ji 5 173 rfl rfl rfl))))))
     refine rd_condM (j := 162) h rfl (fun g179 h => ?_) (fun g179 h => ?_)
     ·exact rpv 162 rfl rfl rfl g179 (rpv 162 rfl rfl rfl g179 (rpv 162 rfl rfl rfl g179 (rpv 162 rfl rfl rfl g179 (rd_v rfl (v_pick_t rfl g179 rfl) (hJ178 _ () h _ (ji 5 167 rfl rfl rfl))))))
     exact rvt 162 rfl rfl rfl g179 (v_move rfl) (cal_inv h fun y180 hy180 h => rvt 162 rfl rfl rfl g179 (v_ix (l := q2) rfl hI rfl sl45 hy180) (rvt 162 rfl rfl rfl g179 (v_loadI ty5 rfl) (rvt 162 rfl rfl rfl g179 (v_lss8 rfl rfl) (rd_v rfl (v_pick_f rfl g179 rfl) (hJ178 _ () h _ (ji 5 167 rfl rfl rfl))))))
    refine rd_condM (j := 154) h rfl (fun g175 h => ?_) (fun g175 h => ?_)
    ·exact rpv 154 rfl rfl rfl g175 (rpv 154 rfl rfl rfl g175 (rpv 154 rfl rfl rfl g175 (rpv 154 rfl rfl rfl g175 (rpv 154 rfl rfl rfl g175 (rpv 154 rfl rfl rfl g175 (rd_v rfl (v_pick_t rfl g175 rfl) (hJ174 _ () h _ (ji 7 161 rfl rfl rfl))))))))
    exact rvt 154 rfl rfl rfl g175 (v_fi rfl GAcc.f1 fd187_1 rfl (z := (tab2 (shr8 (tab1 y99) (4 : UInt64).toNat)).hi)) (rvt 154 rfl rfl rfl g175 (v_loadI ty5 rfl) (rvt 154 rfl rfl rfl g175 (v_move rfl) (cal_inv h fun y176 hy176 h => rvt 154 rfl rfl rfl g175 (v_ix (l := q2) rfl hI rfl sl45 hy176) (rvt 154 rfl rfl rfl g175 (v_loadI ty5 rfl) (rvt 154 rfl rfl rfl g175 (v_lss8 rfl rfl) (rd_v rfl (v_pick_f rfl g175 rfl) (hJ174 _ () h _ (ji 7 161 rfl rfl rfl))))))))
   refine rd_condM (j := 146) h rfl (fun g171 h => ?_) (fun g171 h => ?_)
   ·exact rpv 146 rfl rfl rfl g171 (rpv 146 rfl rfl rfl g171 (rpv 146 rfl rfl rfl g171 (rpv 146 rfl rfl rfl g171 (rpv 146 rfl rfl rfl g171 (rpv 146 rfl rfl rfl g171 (rd_v rfl (v_pick_t rfl g171 rfl) (hJ170 _ () h _ (ji 7 153 rfl rfl rfl))))))))
   exact rvt 146 rfl rfl rfl g171 (v_move rfl) (cal_inv h fun y172 hy172 h => rvt 146 rfl rfl rfl g171 (v_ix (l := q2) rfl hI rfl sl45 hy172) (rvt 146 rfl rfl rfl g171 (v_loadI ty5 rfl) (rvt 146 rfl rfl rfl g171 (v_fi rfl GAcc.f0 fd187_0 rfl (z := (tab2 (shr8 (tab1 y99) (4 : UInt64).toNat)).lo)) (rvt 146 rfl rfl rfl g171 (v_loadI ty5 rfl) (rvt 146 rfl rfl rfl g171 (v_lss8 rfl rfl) (rd_v rfl (v_pick_f rfl g171 rfl) (hJ170 _ () h _ (ji 7 153 rfl rfl rfl))))))))
  refine wsr (oA rfl (rnf (w_ret (ret_block (ret_block (rL3 _ (ret_block (ret_nxt ?_))))))))
  cases h
  exact ret_post (.tmp rfl .nil) .nil ⟨rfl, rfl⟩
 refine w_exit (exi_nxt (eL3 _ _ (exi_block (fin_nxt (wsr (oA rfl (rnf (w_ret ?_))))))))
 cases h
 exact ret_post (.tmp rfl .nil) .nil ⟨rfl, rfl⟩


theorem table_maker_standard_c1_w : ∀ {a_y : GItem} {a_a1 : Val} {b_a_a1 : Nat} {r : Bool × Val}, table_maker_standard_c1 a_y a_a1 = some r → Ctr Tryz.prog 141 [isv (a_y), ptrv b_a_a1 (Fld.id Val)] [boxE b_a_a1 (a_a1 : Val)] (fun R H => R = oneOf [isv (r.1)] ∧ H = [boxE b_a_a1 (r.2)]) := by
 intro a_y a_a1 b_a_a1 r h
 unfold table_maker_standard_c1 at h
 refine spec_introD Tryz.func141 rfl fun w0 S0 hT => wsr (oT (t_boxIC (y := a_y) rfl hI (oA rfl (rnf (wsr (oV (v_fi rfl GItem.f0 fd63_0 rfl (z := a_y.name)) (oV (v_loadI ty9 rfl) (oV (v_fa rfl Val.f2 fd49_2) ?_))))))))
 refine oT (t_loadC (R := isv (a_a1.b)) ty45 rfl .here hI (oV (v_bs (l := a_a1.b) Tryz.underlying45 Tryz.underlying5 Tryz.underlying9 rfl hI) (oV (v_eqA eq9 rfl rfl) (oA rfl (rnf (w_ret ?_))))))
 cases h
 exact ret_post (.tmp rfl .nil) k1 ⟨rfl, rfl⟩


theorem slices_IndexFunc_Lapi_Item_api_Item_2_w : ∀ {a_s : (List GItem)} {a_f_0 : Val} {b_a_f_0 : Nat} {r : Int × Val}, slices_IndexFunc_Lapi_Item_api_Item_2 a_s a_f_0 = some r → Ctr Tryz.prog 126 [isv (a_s), clov 141 [ptrv b_a_f_0 (Fld.id Val)]] [boxE b_a_f_0 (a_f_0 : Val)] (fun R H => R = oneOf [isv (r.1)] ∧ H = [boxE b_a_f_0 (r.2)]) := by
 intro a_s a_f_0 b_a_f_0 r h
 unfold slices_IndexFunc_Lapi_Item_api_Item_2 at h
 refine spec_introD Tryz.func126 rfl fun w0 S0 hT => wsr (oA rfl (rnf (w_seq (wsr (oM rfl (oV (v_ln (l := a_s) rfl hI sl40) (oM rfl ?_)))))))
 refine rnf (w_block (w_lp (ι := Int × Val) (γ := Unit) (fun q1 g1 => [(8, isv (q1.1))]) (fun q1 g1 => [boxE b_a_f_0 (q1.2 : Val)]) h () (mod_cons (j := 8) rfl hI mod_nil) k1 (fun L2 q1 g1 Q9 h hL2 eL2 rL2 => wsr (oV (v_lss rfl rfl) (rnf (w_seq (w_condM h rfl (fun _ h => ?_) (fun _ h => ?_))))))))
 ·refine wkf (w_seq (w_block (wsr (oM rfl (oA rfl (rnf (wsr (oM rfl ?_))))))))
  refine oM rfl (oM rfl (cal_inv h fun y6 hy6 h => oV (v_ix (l := a_s) rfl hI rfl sl40 hy6) (oV (v_loadI ty63 rfl) (cal_inv h fun y7 hy7 h => oT (t_callC rfl (s1 rfl) (table_maker_standard_c1_w hy7) hT k1 (fun R H' hR => ?_))))))
  obtain ⟨rfl, rfl⟩ := hR
  refine rnf (w_condM h rfl (fun _ h => ?_) (fun _ h => ?_))
  ·refine wsr (oM rfl (oA rfl (rnf (w_ret (ret_block (ret_nxt (rL2 _ (ret_block ?_))))))))
   refine ret_nxt ?_
   cases h
   exact ret_post (.tmp rfl .nil) k1 ⟨rfl, rfl⟩
  exact w_skip (fin_block (fin_nxt (w_region (ck_inv h fun q8 h => oV (v_add rfl rfl q8) (oM rfl (rl_nil (hL2 _ () h _ (jk 12 8 rfl rfl rfl))))))))
 refine w_exit (exi_nxt (eL2 _ _ (exi_block (fin_nxt (wsr (oA rfl (rnf (w_ret ?_))))))))
 cases h
 exact ret_post (.tmp rfl .nil) k1 ⟨rfl, rfl⟩


theorem table_maker_standard_w : ∀ {a_x : GTmk} {a_at_ : Int} {a_v : Val} {b_a_x : Nat} {v_a_x1 : Vt} {r : Val × Bool × GTmk}, table_maker_standard a_x a_at_ a_v = some r → Ctr Tryz.prog 130 [ptrv b_a_x (Fld.id ((Wr Vh) × GMod)), isv (a_at_), isv (a_v)] [boxE b_a_x (((Wr.mk (Vh.mk v_a_x1 a_x.types.l.length)), a_x.m) : ((Wr Vh) × GMod)), vecE v_a_x1 (a_x.types.l : List GTyp)] (fun R H => R = oneOf [isv (r.1), isv (r.2.1)] ∧ H = [boxE b_a_x (((Wr.mk (Vh.mk v_a_x1 r.2.2.types.l.length)), r.2.2.m)), vecE v_a_x1 (r.2.2.types.l)]) := by
 intro a_x a_at_ a_v b_a_x v_a_x1 r h
 unfold table_maker_standard at h
 refine spec_introD Tryz.func130 rfl fun w0 S0 hT => wsr (oT (t_boxC (y := a_v) rfl hI fun b2 => oT (t_alloc _ ze49 fun b3 => oA rfl (rnf (wsr (oM rfl (oV (v_nilCheck rfl) ?_)))))))
 refine oV (v_fa rfl pt98_0_0 fd98_0) (oV (v_fa rfl pt96_0_0 fd96_0) (oT (t_loadC (R := vecv v_a_x1 (a_x.types.l.length)) ty31 rfl tI isvV1 (oM rfl (asd_inv h fun q4 h => oV (v_vidx (α := GTyp) sl31 rfl rfl q4.1 q4.2) (cal_inv h fun y5 hy5 h => oT (t_vload ty43 rfl (.there tI) hy5 ?_)))))))
 refine oT (t_alloc _ ze43 fun b6 => oT (t_storeC (y' := (y5 : GTyp)) ty43 rfl rfl hI .here rfl (rl_upd (upd_imm 8 .here rfl) (rnf (w_seq (wsr (oV (v_fa rfl Val.f0 fd49_0) (oT (t_loadC (R := isv (a_v.kind)) ty3 rfl tH hI (oV (v_fi rfl GTyp.f0 fd43_0 rfl (z := y5.kind)) ?_))))))))))
 refine oV (v_loadI ty3 rfl) (oV (v_neq rfl rfl) (rnf (w_condM h rfl (fun _ h => ?_) (fun _ h => ?_))))
 ·refine wsr (oV (v_build (z := (Val.mk (0 : Int) (0 : Int) ([] : (List UInt8)) ([] : (List Val)) (0 : Int) ([] : (List Raw)))) rfl bu49 ze49 .nil) (oT (t_storeC (y' := ((Val.mk (0 : Int) (0 : Int) ([] : (List UInt8)) ([] : (List Val)) (0 : Int) ([] : (List Raw))) : Val)) ty49 rfl rfl hI .here rfl (oA rfl (rnf (w_ret (ret_nxt ?_)))))))
  cases h
  exact ret_post (.cell rfl .here ty49 (.tmp rfl .nil)) (.cons tI (.cons tI .nil)) ⟨rfl, rfl⟩
 refine wkf (wsr (oV (v_fa rfl Val.f2 fd49_2) (oT (t_loadC (R := isv (a_v.b)) ty45 rfl tH hI (cal_inv h fun y7 hy7 h => oT (t_callE (slices_Clone_Lbyte_byte_w hy7) hT (s1 rfl) .nil (oV (v_fa rfl Val.f2 fd49_2) (oT (t_storeC (y' := ((Val.mk a_v.kind a_v.n y7 a_v.l a_v.rule a_v.more) : Val)) ty45 rfl rfl hI tH rfl (rnf ?_))))))))))
 refine w_seq (wsr (oV (v_fi rfl GTyp.f0 fd43_0 rfl (z := y5.kind)) (oV (v_loadI ty3 rfl) (rnf (w_J (ι := Val) (γ := Unit) (fun q8 g8 => []) (fun q8 g8 => [boxE b2 (q8 : Val)]) k1 h (fun q8 g8 h => ?_) (fun J9 h hJ9 => ?_))))))
 ·refine wsr (oV (v_build (z := (Val.mk (0 : Int) (0 : Int) ([] : (List UInt8)) ([] : (List Val)) (0 : Int) ([] : (List Raw)))) rfl bu49 ze49 .nil) (oT (t_storeC (y' := ((Val.mk (0 : Int) (0 : Int) ([] : (List UInt8)) ([] : (List Val)) (0 : Int) ([] : (List Raw))) : Val)) ty49 rfl rfl hI tH rfl (oA rfl (rnf (w_ret ?_))))))
  cases h
  exact ret_post (.cell rfl .here ty49 (.tmp rfl .nil)) (.cons tI (.cons tI .nil)) ⟨rfl, rfl⟩
 refine w_block (w_seq (wsr (oV (v_eql rfl rfl) (oA rfl (rnf (w_J (jb 30) je .nil h (fun q10 g10 h => ?_) (fun J11 h hJ11 => ?_)))))))
 ·refine w_condM h rfl (fun _ h => ?_) (fun _ h => ?_)
  ·refine wsr (oT (t_loadC (R := isv ((Val.mk a_v.kind a_v.n y7 a_v.l a_v.rule a_v.more))) ty49 rfl .here hI (oT (t_storeC (y' := ((Val.mk a_v.kind a_v.n y7 a_v.l a_v.rule a_v.more) : Val)) ty49 rfl rfl hI tH rfl (oA rfl (rnf (w_ret (ret_block (ret_nxt ?_)))))))))
   cases h
   exact ret_post (.cell rfl .here ty49 (.tmp rfl .nil)) (.cons tI (.cons tI .nil)) ⟨rfl, rfl⟩
  refine wsr (oV (v_eql rfl rfl) (oA rfl (rnf (w_condM h rfl (fun _ h => ?_) (fun _ h => ?_)))))
  ·refine w_seq (w_pinN 5 .here rfl (fun o12 hn13 => w_regionD (.v 0 (.v 1 (.v 2 (.v 3 (.v 4 (.t 5 (.t 6 (.v 7 .nil)))))))) moOrd (by kernel_rfl) ?_))
   refine rd_v rfl (v_lpC (y := ((Val.mk a_v.kind a_v.n y7 a_v.l a_v.rule a_v.more) : Val)) (R := isv ((Val.mk a_v.kind a_v.n y7 a_v.l a_v.rule a_v.more))) ty49 rfl (List.Mem.head _) (by exact hI)) ?_
   refine rd_v rfl (v_fi rfl GTyp.f2 fd43_2 rfl (z := y5.con)) (rd_v rfl (v_loadI ty39 rfl) (rd_v rfl (v_fp rfl Val.f1 fd49_1) (rd_v rfl (v_lpC (y := ((Val.mk a_v.kind a_v.n y7 a_v.l a_v.rule a_v.more) : Val)) (R := isv (a_v.n)) ty2 rfl (List.Mem.head _) (by exact hI)) ?_)))
   refine cal_inv h fun y14 hy14 h => rd_t rfl rfl (t_callE (bounds_Within_w hy14) hT (s2 rfl rfl) .nil (rd_t rfl rfl (t_storeC (y' := ((Val.mk a_v.kind a_v.n y7 a_v.l a_v.rule a_v.more) : Val)) ty49 rfl rfl hI .here rfl (rd_v rfl (v_assign rfl) (rd_nil (fin_unpinN 5 hn13 rfl (fin_nxt (w_ret (ret_block ?_)))))))))
   refine ret_nxt ?_
   cases h
   exact ret_post (.cell rfl tH ty49 (.tmp rfl .nil)) (.cons tI (.cons tI .nil)) ⟨rfl, rfl⟩
  refine wsr (oV (v_eql rfl rfl) (oA rfl (rnf (w_condM h rfl (fun _ h => ?_) (fun _ h => ?_)))))
  ·refine w_seq (w_pinN 5 .here rfl (fun o15 hn16 => w_regionD (.v 0 (.v 1 (.v 2 (.v 3 (.v 4 (.v 5 (.t 6 (.t 7 (.v 8 .nil))))))))) moOrd (by kernel_rfl) ?_))
   refine rd_v rfl (v_lpC (y := ((Val.mk a_v.kind a_v.n y7 a_v.l a_v.rule a_v.more) : Val)) (R := isv ((Val.mk a_v.kind a_v.n y7 a_v.l a_v.rule a_v.more))) ty49 rfl (List.Mem.head _) (by exact hI)) ?_
   refine rd_v rfl (v_fi rfl GTyp.f2 fd43_2 rfl (z := y5.con)) (rd_v rfl (v_loadI ty39 rfl) (rd_v rfl (v_fp rfl Val.f2 fd49_2) (rd_v rfl (v_lpC (y := ((Val.mk a_v.kind a_v.n y7 a_v.l a_v.rule a_v.more) : Val)) (R := isv (y7)) ty45 rfl (List.Mem.head _) (by exact hI)) ?_)))
   refine rd_v rfl (v_ln (l := y7) rfl hI sl45) (cal_inv h fun y17 hy17 h => rd_t rfl rfl (t_callE (bounds_Within_w hy17) hT (s2 rfl rfl) .nil (rd_t rfl rfl (t_storeC (y' := ((Val.mk a_v.kind a_v.n y7 a_v.l a_v.rule a_v.more) : Val)) ty49 rfl rfl hI .here rfl (rd_v rfl (v_assign rfl) (rd_nil (fin_unpinN 5 hn16 rfl (fin_nxt (w_ret ?_)))))))))
   refine ret_block (ret_nxt ?_)
   cases h
   exact ret_post (.cell rfl tH ty49 (.tmp rfl .nil)) (.cons tI (.cons tI .nil)) ⟨rfl, rfl⟩
  refine wsr (oV (v_eql rfl rfl) (oA rfl (rnf (w_condM h rfl (fun _ h => ?_) (fun _ h => ?_)))))
  ·refine w_seq (w_pinN 5 .here rfl (fun o18 hn19 => w_regionD (.v 0 (.v 1 (.v 2 (.v 3 (.v 4 (.v 5 (.t 6 (.v 7 (.v 8 (.v 9 (.t 10 (.v 11 (.t 12 (.v 13 .nil)))))))))))))) moOrd (by kernel_rfl) ?_))
   refine rd_v rfl (v_lpC (y := ((Val.mk a_v.kind a_v.n y7 a_v.l a_v.rule a_v.more) : Val)) (R := isv ((Val.mk a_v.kind a_v.n y7 a_v.l a_v.rule a_v.more))) ty49 rfl (List.Mem.head _) (by exact hI)) ?_
   refine rd_v rfl (v_fi rfl GTyp.f2 fd43_2 rfl (z := y5.con)) (rd_v rfl (v_loadI ty39 rfl) (rd_v rfl (v_fp rfl Val.f2 fd49_2) (rd_v rfl (v_lpC (y := ((Val.mk a_v.kind a_v.n y7 a_v.l a_v.rule a_v.more) : Val)) (R := isv (y7)) ty45 rfl (List.Mem.head _) (by exact hI)) ?_)))
   refine rd_v rfl (v_ln (l := y7) rfl hI sl45) (cal_inv h fun y20 hy20 h => rd_t rfl rfl (t_callE (bounds_Within_w hy20) hT (s2 rfl rfl) .nil (rvm rfl rfl (rd_j (jb 64) je .nil h 4 rfl (fun q21 g21 h => ?_) (fun J22 h hJ22 => ?_)))))
   ·refine rd_t rfl rfl (t_storeC (y' := ((Val.mk a_v.kind a_v.n y7 a_v.l a_v.rule a_v.more) : Val)) ty49 rfl rfl hI .here rfl (rd_v rfl (v_assign rfl) (rd_nil (fin_unpinN 5 hn19 rfl (fin_nxt (w_ret (ret_block (ret_nxt ?_))))))))
    cases h
    exact ret_post (.cell rfl tH ty49 (.tmp rfl .nil)) (.cons tI (.cons tI .nil)) ⟨rfl, rfl⟩
   refine rd_condM (j := 60) h rfl (fun g23 h => ?_) (fun g23 h => ?_)
   ·refine rvt 60 rfl rfl rfl g23 (v_fp rfl Val.f2 fd49_2) (rvt 60 rfl rfl rfl g23 (v_lpC (y := ((Val.mk a_v.kind a_v.n y7 a_v.l a_v.rule a_v.more) : Val)) (R := isv (y7)) ty45 rfl (List.Mem.head _) (by exact hI)) ?_)
    exact cal_inv h fun y24 hy24 h => rd_tt rfl rfl rfl (dj := 60) rfl g23 (t_callE (utf8_Valid_w hy24) hT (s1 rfl) .nil (rd_v rfl (v_pick_t rfl g23 rfl) (hJ22 _ () h _ (join_imp 4 rfl rfl (mod_cons (j := 64) rfl hI mod_nil) k3))))
   exact rpv 60 rfl rfl rfl g23 (rpv 60 rfl rfl rfl g23 (rd_passT rfl rfl (dj := 60) rfl g23 (rd_v rfl (v_pick_f rfl g23 rfl) (hJ22 _ () h _ (join_imp 4 rfl rfl (mod_cons (j := 64) rfl hI mod_nil) k3)))))
  refine wsr (oV (v_eql rfl rfl) (oA rfl (rnf (w_condM h rfl (fun _ h => ?_) (fun _ h => ?_)))))
  ·refine w_seq (w_regionD (.v 0 (.v 1 (.v 2 (.v 3 (.v 4 (.v 5 (.v 8 (.t 6 (.v 7 (.t 9 (.v 10 .nil))))))))))) moOrd (by kernel_rfl) ?_)
   refine rd_v rfl (v_fi rfl GTyp.f3 fd43_3 rfl (z := y5.items)) (rd_v rfl (v_loadI ty40 rfl) (rd_v rfl (v_fi rfl GTyp.f5 fd43_5 rfl (z := y5.root)) (rd_v rfl (v_loadI ty3 rfl) (rd_v rfl (v_fi rfl GTyp.f3 fd43_3 rfl (z := y5.items)) (rd_v rfl (v_loadI ty40 rfl) (rd_v rfl (v_makeFunc (s1 rfl)) (cal_inv h fun y25 hy25 h => rd_t rfl rfl (t_callE (table_root_w hy25) hT (s2 rfl rfl) .nil ?_))))))))
   refine asd_inv h fun q26 h => rd_v rfl (v_sl (l := y5.items) rfl hI sl40 (.inl ⟨rfl, rfl⟩) (.inr ⟨_, rfl, rfl⟩) q26.1 q26.2.1 q26.2.2) (cal_inv h fun y27 hy27 h => rd_t rfl rfl (t_callE (slices_IndexFunc_Lapi_Item_api_Item_2_w hy27) hT (s2 rfl rfl) k1 (rd_v rfl (v_assign rfl) (rd_nil (fin_nxt (wsr (oM rfl ?_)))))))
   refine oV (v_geq rfl rfl) (rnf (w_condM h rfl (fun _ h => ?_) (fun _ h => ?_)))
   ·refine wsr (oV (v_fi rfl GTyp.f3 fd43_3 rfl (z := y5.items)) (oV (v_loadI ty40 rfl) (oM rfl (cal_inv h fun y28 hy28 h => oV (v_ix (l := y5.items) rfl hI rfl sl40 hy28) (oV (v_fi rfl GItem.f1 fd63_1 rfl (z := y28.number)) (oV (v_loadI ty2 rfl) (oV (v_build (z := (Val.mk (3 : Int) y28.number ([] : (List UInt8)) ([] : (List Val)) (0 : Int) ([] : (List Raw)))) rfl bu49 ze49 (.cons Val.f0 fd49_0 rfl hI (.cons Val.f1 fd49_1 rfl hI .nil))) ?_)))))))
    refine oT (t_storeC (y' := ((Val.mk (3 : Int) y28.number ([] : (List UInt8)) ([] : (List Val)) (0 : Int) ([] : (List Raw))) : Val)) ty49 rfl rfl hI tH rfl (oA rfl (rnf (w_ret (ret_block (ret_nxt ?_))))))
    cases h
    exact ret_post (.cell rfl .here ty49 (.tmp rfl .nil)) (.cons tI (.cons tI .nil)) ⟨rfl, rfl⟩
   exact w_skip (fin_block (hJ9 _ () h _ (join_imp 24 rfl rfl mod_nil k4)))
  exact w_skip (fin_block (hJ9 _ () h _ (join_imp 11 rfl rfl mod_nil k4)))
 refine w_condM h rfl (fun _ h => ?_) (fun _ h => ?_)
 ·exact w_skip (hJ11 _ () h _ (join_imp 0 rfl rfl (mod_cons (j := 30) rfl hI mod_nil) k4))
 exact w_region (oV (v_eql rfl rfl) (oA rfl (rl_nil (hJ11 _ () h _ (join_imp 2 rfl rfl (mod_cons (j := 30) rfl hI mod_nil) k4)))))


theorem table_maker_soft_w : ∀ {a_x : GTmk} {a_at_ : Int} {b_a_x : Nat} {v_a_x1 : Vt} {r : Int × GTmk}, table_maker_soft a_x a_at_ = some r → Ctr Tryz.prog 93 [ptrv b_a_x (Fld.id ((Wr Vh) × GMod)), isv (a_at_)] [boxE b_a_x (((Wr.mk (Vh.mk v_a_x1 a_x.types.l.length)), a_x.m) : ((Wr Vh) × GMod)), vecE v_a_x1 (a_x.types.l : List GTyp)] (fun R H => R = oneOf [isv (r.1)] ∧ H = [boxE b_a_x (((Wr.mk (Vh.mk v_a_x1 r.2.types.l.length)), r.2.m)), vecE v_a_x1 (r.2.types.l)]) := by
 intro a_x a_at_ b_a_x v_a_x1 r h
 unfold table_maker_soft at h
 refine spec_introD Tryz.func93 rfl fun w0 S0 hT => wsr (oA rfl (rnf (w_seq (wsr (oM rfl (oV (v_nilCheck rfl) (oV (v_fa rfl pt98_0_0 fd98_0) ?_)))))))
 refine oV (v_fa rfl pt96_0_0 fd96_0) (oT (t_loadC (R := vecv v_a_x1 (a_x.types.l.length)) ty31 rfl .here isvV1 (oM rfl (asd_inv h fun q2 h => oV (v_vidx (α := GTyp) sl31 rfl rfl q2.1 q2.2) (oV (v_fv rfl GTyp.f1 fd43_1) (cal_inv h fun y3 hy3 h => oT (t_vload ty37 rfl tH hy3 ?_)))))))
 refine oV (v_ln (l := y3.tags) rfl hI sl37) (oV (v_gtr rfl rfl) (rnf (w_condM h rfl (fun _ h => ?_) (fun _ h => ?_))))
 ·refine wsr (oA rfl (rnf (w_ret (ret_nxt ?_))))
  cases h
  exact ret_post (.tmp rfl .nil) k2 ⟨rfl, rfl⟩
 refine wkf (wsr (oA rfl (rnf (w_ret ?_))))
 cases h
 exact ret_post (.tmp rfl .nil) k2 ⟨rfl, rfl⟩


theorem tags_Wrap_w : ∀ {a_tags : (List Tag)} {a_number : Int} {a_mode : Int} {r : (List Tag) × Int}, tags_Wrap a_tags a_number a_mode = some r → Ctr Tryz.prog 114 [isv (a_tags), isv (a_number), isv (a_mode)] [] (fun R H => R = oneOf [isv (r.1), isv (r.2)] ∧ H = []) := by
 intro a_tags a_number a_mode r h
 unfold tags_Wrap at h
 refine spec_introD Tryz.func114 rfl fun w0 S0 hT => wsr (oA rfl (oA rfl (rnf (w_seq (wsr (oM rfl (oV (v_lss rfl rfl) ?_)))))))
 refine oM rfl (rl_j (jb 13) je .nil h 3 rfl (fun q1 g1 h => ?_) (fun J2 h hJ2 => ?_))
 ·refine oM rfl (rl_j (jb 22) je .nil h 8 rfl (fun q4 g4 h => ?_) (fun J5 h hJ5 => ?_))
  ·refine rnf (w_condM h rfl (fun _ h => ?_) (fun _ h => ?_))
   ·refine wsr (oA rfl (oA rfl (rnf (w_ret (ret_nxt ?_)))))
    cases h
    exact ret_post (.as rfl (nilv_isv (α := Tag)) (.tmp rfl .nil)) .nil ⟨rfl, rfl⟩
   refine wkf (w_seq (wsr (oM rfl (oV (v_eql rfl rfl) (rnf (w_J (ι := (List Tag)) (γ := Unit) (fun q10 g10 => [(0, isv (q10))]) (fun q10 g10 => []) .nil h (fun q10 g10 h => ?_) (fun J11 h hJ11 => ?_)))))))
   ·refine wsr (oM rfl (oV (v_build (z := (Tag.mk (2 : Int) a_number)) rfl bu66 ze66 (.cons Tag.f0 fd66_0 rfl hI (.cons Tag.f1 fd66_1 rfl hI .nil))) (oT (t_buildSlice (l := ([(Tag.mk (2 : Int) a_number)] : (List Tag))) el37 (.cons rfl hI .nil) rfl rfl (oM rfl (oT (t_buildSlice (l := ([([(Tag.mk (2 : Int) a_number)] : (List Tag)), q10] : (List (List Tag)))) el44 (.cons rfl appv_isv (.cons rfl hI .nil)) rfl rfl (cal_inv h fun y15 hy15 h => oT (t_callE (slices_Concat_Lapi_Tag_api_Tag_w hy15) hT (.cons rfl appv_isv .nil) .nil (oA rfl ?_))))))))))
    refine oA rfl (rnf (w_ret ?_))
    cases h
    exact ret_post (.tmp rfl (.tmp rfl .nil)) .nil ⟨rfl, rfl⟩
   refine w_condM h rfl (fun _ h => ?_) (fun _ h => ?_)
   ·exact w_region (oM rfl (asd_inv h fun q12 h => oV (v_sl (l := a_tags) rfl hI sl37 (.inr ⟨_, rfl, rfl⟩) (.inl ⟨rfl, rfl⟩) q12.1 q12.2.1 q12.2.2) (oA rfl (rl_nil (hJ11 _ () h _ (ji 3 0 rfl rfl rfl))))))
   exact w_skip (hJ11 _ () h _ (ji 0 0 rfl rfl rfl))
  refine rl_condM (j := 14) h rfl (fun g6 h => ?_) (fun g6 h => ?_)
  ·exact oP 14 rfl rfl g6 (oP 14 rfl rfl g6 (oP 14 rfl rfl g6 (op_passU rfl (dj := 17) rfl (op_passU rfl (dj := 17) rfl (op_passU rfl (dj := 17) rfl (oP 14 rfl rfl g6 (oV (v_pick_t rfl g6 rfl) (hJ5 _ () h _ (ji 8 22 rfl rfl rfl)))))))))
  refine oK 14 rfl rfl rfl g6 (v_move rfl) (oK 14 rfl rfl rfl g6 (v_eql rfl rfl) (oK 14 rfl rfl rfl g6 (v_move rfl) (rl_j (jb 21) je .nil h 4 rfl (fun q7 g7 h => ?_) (fun J8 h hJ8 => ?_))))
  ·exact oV (v_pick_f rfl g6 rfl) (hJ5 _ () h _ (ji 5 22 rfl rfl rfl))
  refine rl_condM (j := 17) h rfl (fun g9 h => ?_) (fun g9 h => ?_)
  ·exact oK 17 rfl rfl rfl g9 (v_move rfl) (oK 17 rfl rfl rfl g9 (v_ln (l := a_tags) rfl hI sl37) (oK 17 rfl rfl rfl g9 (v_eql rfl rfl) (oK 14 rfl rfl rfl g6 (v_pick_t rfl g9 rfl) (hJ8 _ () h _ (ji 4 21 rfl rfl rfl)))))
  exact oP 17 rfl rfl g9 (oP 17 rfl rfl g9 (oP 17 rfl rfl g9 (oK 14 rfl rfl rfl g6 (v_pick_f rfl g9 rfl) (hJ8 _ () h _ (ji 4 21 rfl rfl rfl)))))
 refine rl_condM (j := 10) h rfl (fun g3 h => ?_) (fun g3 h => ?_)
 ·exact oP 10 rfl rfl g3 (oP 10 rfl rfl g3 (oV (v_pick_t rfl g3 rfl) (hJ2 _ () h _ (ji 3 13 rfl rfl rfl))))
 exact oK 10 rfl rfl rfl g3 (v_move rfl) (oK 10 rfl rfl rfl g3 (v_gtr rfl rfl) (oV (v_pick_f rfl g3 rfl) (hJ2 _ () h _ (ji 3 13 rfl rfl rfl))))


theorem table_maker_wrap_w : ∀ {a_x : GTmk} {a_at_ : Int} {a_number : Int} {a_mode : Int} {b_a_x : Nat} {v_a_x1 : Vt} {r : Int × GTmk}, table_maker_wrap a_x a_at_ a_number a_mode = some r → Ctr Tryz.prog 94 [ptrv b_a_x (Fld.id ((Wr Vh) × GMod)), isv (a_at_), isv (a_number), isv (a_mode)] [boxE b_a_x (((Wr.mk (Vh.mk v_a_x1 a_x.types.l.length)), a_x.m) : ((Wr Vh) × GMod)), vecE v_a_x1 (a_x.types.l : List GTyp)] (fun R H => R = oneOf [isv (r.1)] ∧ H = [boxE b_a_x (((Wr.mk (Vh.mk v_a_x1 r.2.types.l.length)), r.2.m)), vecE v_a_x1 (r.2.types.l)]) := by
 intro a_x a_at_ a_number a_mode b_a_x v_a_x1 r h
 unfold table_maker_wrap at h
 refine spec_introD Tryz.func94 rfl fun w0 S0 hT => wsr (oA rfl (rnf (wsr (oM rfl (oV (v_nilCheck rfl) (oV (v_fa rfl pt98_0_0 fd98_0) (oV (v_fa rfl pt96_0_0 fd96_0) ?_)))))))
 refine oT (t_loadC (R := vecv v_a_x1 (a_x.types.l.length)) ty31 rfl .here isvV1 (oM rfl (asd_inv h fun q2 h => oV (v_vidx (α := GTyp) sl31 rfl rfl q2.1 q2.2) (oV (v_fv rfl GTyp.f1 fd43_1) (cal_inv h fun y3 hy3 h => oT (t_vload ty37 rfl tH hy3 ?_))))))
 refine oM rfl (oM rfl (cal_inv h fun y4 hy4 h => oT (t_callE (tags_Wrap_w hy4) hT (s3 rfl rfl rfl) .nil (oM rfl (oV (v_extract rfl rfl) (oV (v_extract rfl rfl) (oA rfl (oA rfl ?_))))))))
 refine rnf (w_seq (wsr (oM rfl (oV (v_eql rfl rfl) (rnf (w_J (ι := GTmk) (γ := Unit) (fun q5 g5 => []) (fun q5 g5 => [boxE b_a_x (((Wr.mk (Vh.mk v_a_x1 q5.types.l.length)), q5.m) : ((Wr Vh) × GMod)), vecE v_a_x1 (q5.types.l : List GTyp)]) k2 h (fun q5 g5 h => ?_) (fun J6 h hJ6 => ?_)))))))
 ·refine wsr (oM rfl (oA rfl (rnf (w_ret ?_))))
  cases h
  exact ret_post (.tmp rfl .nil) k2 ⟨rfl, rfl⟩
 refine w_condM h rfl (fun _ h => ?_) (fun _ h => ?_)
 ·refine w_region (oM rfl (oV (v_nilCheck rfl) (oV (v_fa rfl pt98_0_0 fd98_0) (oV (v_fa rfl pt96_0_0 fd96_0) (oT (t_loadC (R := vecv v_a_x1 (a_x.types.l.length)) ty31 rfl .here isvV1 (oM rfl (oM rfl (asd_inv h fun q7 h => ?_)))))))))
  refine oV (v_vidx (α := GTyp) sl31 rfl rfl q7.1 q7.2) (oV (v_fv rfl GTyp.f1 fd43_1) (cal_inv h fun y8 hy8 h => oT (t_vstore ty37 rfl rfl tH hy8 (rl_upd (upd_box (y := (((Wr.mk (Vh.mk v_a_x1 (a_x.types.l.set a_at_.toNat ({ y8 with tags := y4.1 })).length)), a_x.m) : ((Wr Vh) × GMod))) tH (fun S => (Cv.pair (Cv.wr (Cv.vhe (by first | rfl | simp))) Cv.id))) ?_))))
  exact rl_nil (hJ6 _ () h _ (join_imp 9 rfl rfl mod_nil k2))
 exact w_skip (hJ6 _ () h _ (join_imp 0 rfl rfl mod_nil k2))


theorem table_types_wild_c1_w : ∀ {a_x : GTyp} {a_a1 : Bool} {b_a_a1 : Nat} {r : Bool}, table_types_wild_c1 a_x a_a1 = some r → Ctr Tryz.prog 148 [isv (a_x), ptrv b_a_a1 (Fld.id Bool)] [boxE b_a_a1 (a_a1 : Bool)] (fun R H => R = oneOf [] ∧ H = [boxE b_a_a1 (r)]) := by
 intro a_x a_a1 b_a_a1 r h
 unfold table_types_wild_c1 at h
 refine spec_introD Tryz.func148 rfl fun w0 S0 hT => wsr (oT (t_boxIC (y := a_x) rfl hI (rnf (w_region (oT (t_loadC (R := isv (a_a1)) ty4 rfl .here hI (oM rfl (rl_j (jb 18) je .nil h 14 rfl (fun q1 g1 h => ?_) (fun J2 h hJ2 => ?_)))))))))
 ·refine oT (t_storeC (y' := (q1 : Bool)) ty4 rfl rfl hI .here rfl (rl_nil (fin_post .nil k1 ?_)))
  cases h
  exact ⟨rfl, rfl⟩
 refine rl_condM (j := 4) h rfl (fun g3 h => ?_) (fun g3 h => ?_)
 ·refine oP 4 rfl rfl g3 (oP 4 rfl rfl g3 (oP 4 rfl rfl g3 (oP 4 rfl rfl g3 (op_passU rfl (dj := 8) rfl (op_passU rfl (dj := 8) rfl (op_passU rfl (dj := 8) rfl (op_passU rfl (dj := 8) rfl (oP 4 rfl rfl g3 ?_))))))))
  exact oP 4 rfl rfl g3 (op_passU rfl (dj := 14) rfl (op_passU rfl (dj := 14) rfl (oP 4 rfl rfl g3 (oV (v_pick_t rfl g3 rfl) (hJ2 _ () h _ (jk 14 18 rfl rfl rfl))))))
 refine oK 4 rfl rfl rfl g3 (v_fi rfl GTyp.f0 fd43_0 rfl (z := a_x.kind)) (oK 4 rfl rfl rfl g3 (v_loadI ty3 rfl) (oK 4 rfl rfl rfl g3 (v_eql rfl rfl) (oK 4 rfl rfl rfl g3 (v_move rfl) (rl_j (jb 13) je .nil h 5 rfl (fun q4 g4 h => ?_) (fun J5 h hJ5 => ?_)))))
 ·refine oK 4 rfl rfl rfl g3 (v_move rfl) (rl_j (jb 17) je .nil h 3 rfl (fun q7 g7 h => ?_) (fun J8 h hJ8 => ?_))
  ·exact oV (v_pick_f rfl g3 rfl) (hJ2 _ () h _ (jk 8 18 rfl rfl rfl))
  refine rl_condM (j := 14) h rfl (fun g9 h => ?_) (fun g9 h => ?_)
  ·exact oK 14 rfl rfl rfl g9 (v_fi rfl GTyp.f6 fd43_6 rfl (z := a_x.more)) (oK 14 rfl rfl rfl g9 (v_loadI ty4 rfl) (oK 4 rfl rfl rfl g3 (v_pick_t rfl g9 rfl) (hJ8 _ () h _ (jk 3 17 rfl rfl rfl))))
  exact oP 14 rfl rfl g9 (oP 14 rfl rfl g9 (oK 4 rfl rfl rfl g3 (v_pick_f rfl g9 rfl) (hJ8 _ () h _ (jk 3 17 rfl rfl rfl))))
 refine rl_condM (j := 8) h rfl (fun g6 h => ?_) (fun g6 h => ?_)
 ·exact oK 8 rfl rfl rfl g6 (v_fi rfl GTyp.f1 fd43_1 rfl (z := a_x.tags)) (oK 8 rfl rfl rfl g6 (v_loadI ty37 rfl) (oK 8 rfl rfl rfl g6 (v_ln (l := a_x.tags) rfl hI sl37) (oK 8 rfl rfl rfl g6 (v_eql rfl rfl) (oK 4 rfl rfl rfl g3 (v_pick_t rfl g6 rfl) (hJ5 _ () h _ (jk 5 13 rfl rfl rfl))))))
 exact oP 8 rfl rfl g6 (oP 8 rfl rfl g6 (oP 8 rfl rfl g6 (oP 8 rfl rfl g6 (oK 4 rfl rfl rfl g3 (v_pick_f rfl g6 rfl) (hJ5 _ () h _ (jk 5 13 rfl rfl rfl))))))


def table_types_inner_C (f' : GTmk → Int → Int → Bool → Option (GTmk × Int × Bool)) : Prop :=
 ∀ {a_t : GTmk} {a_at_ : Int} {a_left : Int} {a_do__0 : Bool} {b_a_t : Nat} {v_a_t1 : Vt} {b_a_left : Nat} {b_a_do__0 : Nat} {r : GTmk × Int × Bool}, f' a_t a_at_ a_left a_do__0 = some r → Ctr Tryz.prog 147 [ptrv b_a_t ((Fld.id ((Wr Vh) × GMod)).comp pt98_0_0), isv (a_at_), ptrv b_a_left (Fld.id Int), clov 148 [ptrv b_a_do__0 (Fld.id Bool)]] [boxE b_a_t (((Wr.mk (Vh.mk v_a_t1 a_t.types.l.length)), a_t.m) : ((Wr Vh) × GMod)), vecE v_a_t1 (a_t.types.l : List GTyp), boxE b_a_left (a_left : Int), boxE b_a_do__0 (a_do__0 : Bool)] (fun R H => R = oneOf [] ∧ H = [boxE b_a_t (((Wr.mk (Vh.mk v_a_t1 r.1.types.l.length)), r.1.m)), vecE v_a_t1 (r.1.types.l), boxE b_a_left (r.2.1), boxE b_a_do__0 (r.2.2)])
theorem table_types_inner_w0 {table_types_inner' : GTmk → Int → Int → Bool → Option (GTmk × Int × Bool)} (h_table_types_inner : table_types_inner_C table_types_inner') : ∀ {a_t : GTmk} {a_at_ : Int} {a_left : Int} {a_do__0 : Bool} {b_a_t : Nat} {v_a_t1 : Vt} {b_a_left : Nat} {b_a_do__0 : Nat} {r : GTmk × Int × Bool}, table_types_inner_F table_types_inner' a_t a_at_ a_left a_do__0 = some r → Ctr Tryz.prog 147 [ptrv b_a_t ((Fld.id ((Wr Vh) × GMod)).comp pt98_0_0), isv (a_at_), ptrv b_a_left (Fld.id Int), clov 148 [ptrv b_a_do__0 (Fld.id Bool)]] [boxE b_a_t (((Wr.mk (Vh.mk v_a_t1 a_t.types.l.length)), a_t.m) : ((Wr Vh) × GMod)), vecE v_a_t1 (a_t.types.l : List GTyp), boxE b_a_left (a_left : Int), boxE b_a_do__0 (a_do__0 : Bool)] (fun R H => R = oneOf [] ∧ H = [boxE b_a_t (((Wr.mk (Vh.mk v_a_t1 r.1.types.l.length)), r.1.m)), vecE v_a_t1 (r.1.types.l), boxE b_a_left (r.2.1), boxE b_a_do__0 (r.2.2)]) := by
 intro a_t a_at_ a_left a_do__0 b_a_t v_a_t1 b_a_left b_a_do__0 r h
 unfold table_types_inner_F at h
 refine spec_introD Tryz.func147 rfl fun w0 S0 hT => w_seq (wsr (oM rfl (oV (v_lss rfl rfl) (oM rfl (rl_j (jb 21) je .nil h 8 rfl (fun q2 g2 h => ?_) (fun J3 h hJ3 => ?_))))))
 ·refine oM rfl (rl_j (jb 27) je .nil h 5 rfl (fun q5 g5 h => ?_) (fun J6 h hJ6 => ?_))
  ·refine rnf (w_condM h rfl (fun _ h => ?_) (fun _ h => ?_))
   ·refine w_ret (ret_nxt ?_)
    cases h
    exact ret_post .nil k4 ⟨rfl, rfl⟩
   refine wkf (wsr (oM rfl (oV (v_nilCheck rfl) (oT (t_loadC (R := isv (a_left)) ty3 rfl tI hI (ck_inv h fun q8 h => oV (v_sub rfl rfl q8) (oV (v_nilCheck rfl) (oT (t_storeC (y' := ((a_left - (1 : Int)) : Int)) ty3 rfl rfl hI tI rfl ?_)))))))))
   refine rnf (wsr (oM rfl (oV (v_nilCheck rfl) (oV (v_fa rfl pt96_0_0 fd96_0) (oT (t_loadC (R := vecv v_a_t1 (a_t.types.l.length)) ty31 rfl tH isvV1 (oM rfl (asd_inv h fun q9 h => oV (v_vidx (α := GTyp) sl31 rfl rfl q9.1 q9.2) ?_))))))))
   refine cal_inv h fun y10 hy10 h => oT (t_vload ty43 rfl tI hy10 ?_)
   refine oT (t_alloc _ ze43 fun b11 => oT (t_storeC (y' := (y10 : GTyp)) ty43 rfl rfl hI .here rfl (rl_upd (upd_imm 8 .here rfl) (rnf (wsr (oM rfl (oV (v_loadI ty43 rfl) (cal_inv h fun y12 hy12 h => oT (t_callC rfl (s1 rfl) (table_types_wild_c1_w hy12) hT (.cons (.there tI) .nil) (fun R H' hR => ?_))))))))))
   obtain ⟨rfl, rfl⟩ := hR
   refine rnf (w_seq (wsr (oV (v_fi rfl GTyp.f1 fd43_1 rfl (z := y10.tags)) (oV (v_loadI ty37 rfl) (oV (v_ln (l := y10.tags) rfl hI sl37) (oV (v_gtr rfl rfl) (rnf (w_condM h rfl (fun _ h => ?_) (fun _ h => ?_)))))))))
   ·refine w_ret (ret_nxt ?_)
    cases h
    exact ret_post .nil (.cons tI (.cons tI (.cons tH k1))) ⟨rfl, rfl⟩
   refine wkf (wsr (oV (v_fi rfl GTyp.f4 fd43_4 rfl (z := y10.fields)) (oV (v_loadI ty41 rfl) (oV (v_ln (l := y10.fields) rfl hI sl41) (oM rfl (rnf (w_block (w_lp (ι := Int × Bool × Int × GTmk) (γ := Unit) (fun q13 g13 => [(50, isv (q13.1))]) (fun q13 g13 => [boxE b_a_do__0 (q13.2.1 : Bool), boxE b_a_left (q13.2.2.1 : Int), boxE b_a_t (((Wr.mk (Vh.mk v_a_t1 q13.2.2.2.types.l.length)), q13.2.2.2.m) : ((Wr Vh) × GMod)), vecE v_a_t1 (q13.2.2.2.types.l : List GTyp)]) h () (mod_cons (j := 50) rfl hI mod_nil) k4 (fun L14 q13 g13 Q23 h hL14 eL14 rL14 => ?_)))))))))
   refine wsr (oV (v_lss rfl rfl) (rnf (w_seq (w_condM h rfl (fun _ h => ?_) (fun _ h => ?_)))))
   ·refine wkf (w_seq (w_block (wsr (cal_inv h fun y19 hy19 h => oV (v_ix (l := y10.fields) rfl hI rfl sl41 hy19) (oV (v_loadI ty51 rfl) (oT (t_alloc _ ze51 fun b20 => oT (t_storeC (y' := (y19 : GFld)) ty51 rfl rfl hI .here rfl ?_))))))))
    refine rl_upd (upd_imm 10 .here rfl) (rnf (w_region (oM rfl (oV (v_fi rfl GFld.f1 fd51_1 rfl (z := y19.ty)) (oV (v_loadI ty3 rfl) (oM rfl (oM rfl (cal_inv h fun y21 hy21 h => ?_))))))))
    refine oT (t_callE (h_table_types_inner hy21) hT (s4 rfl rfl rfl rfl) (.cons tI (.cons tI (.cons tH k1))) (rl_nil (fin_block (fin_nxt (w_region (ck_inv h fun q22 h => oV (v_add rfl rfl q22) (oM rfl (rl_nil ?_))))))))
    exact hL14 _ () h _ (join_imp 14 rfl rfl (mod_cons (j := 50) rfl hI mod_nil) (.cons (.there tI) (.cons tI k2)))
   refine w_exit (exi_nxt (eL14 _ _ (exi_block (fin_post .nil (.cons tI (.cons tI (.cons tH k1))) ?_))))
   cases h
   exact ⟨rfl, rfl⟩
  refine rl_condM (j := 22) h rfl (fun g7 h => ?_) (fun g7 h => ?_)
  ·exact oP 22 rfl rfl g7 (oP 22 rfl rfl g7 (oP 22 rfl rfl g7 (oP 22 rfl rfl g7 (oV (v_pick_t rfl g7 rfl) (hJ6 _ () h _ (join_imp 5 rfl rfl (mod_cons (j := 27) rfl hI mod_nil) k4))))))
  exact oK 22 rfl rfl rfl g7 (v_move rfl) (oK 22 rfl rfl rfl g7 (v_nilCheck rfl) (op_take rfl rfl (dj := 22) rfl g7 (t_loadC (R := isv (a_left)) ty3 rfl tI hI (oK 22 rfl rfl rfl g7 (v_eql rfl rfl) (oV (v_pick_f rfl g7 rfl) (hJ6 _ () h _ (join_imp 5 rfl rfl (mod_cons (j := 27) rfl hI mod_nil) k4)))))))
 refine rl_condM (j := 13) h rfl (fun g4 h => ?_) (fun g4 h => ?_)
 ·exact oP 13 rfl rfl g4 (oP 13 rfl rfl g4 (oP 13 rfl rfl g4 (oP 13 rfl rfl g4 (oP 13 rfl rfl g4 (oP 13 rfl rfl g4 (oP 13 rfl rfl g4 (oV (v_pick_t rfl g4 rfl) (hJ3 _ () h _ (join_imp 8 rfl rfl (mod_cons (j := 21) rfl hI mod_nil) k4)))))))))
 exact oK 13 rfl rfl rfl g4 (v_move rfl) (oK 13 rfl rfl rfl g4 (v_move rfl) (oK 13 rfl rfl rfl g4 (v_nilCheck rfl) (oK 13 rfl rfl rfl g4 (v_fa rfl pt96_0_0 fd96_0) (op_take rfl rfl (dj := 13) rfl g4 (t_loadC (R := vecv v_a_t1 (a_t.types.l.length)) ty31 rfl .here isvV1 (oK 13 rfl rfl rfl g4 (v_vlen sl31 rfl) (oK 13 rfl rfl rfl g4 (v_geq rfl rfl) (oV (v_pick_f rfl g4 rfl) (hJ3 _ () h _ (join_imp 8 rfl rfl (mod_cons (j := 21) rfl hI mod_nil) k4))))))))))

theorem table_types_inner_grp_w : ∀ n, table_types_inner_C (table_types_inner n)
 | 0 => fun h => (by cases h)
 | n + 1 => table_types_inner_w0 (table_types_inner_grp_w n)
theorem table_types_inner_w (n : Nat) : table_types_inner_C (table_types_inner n) := (table_types_inner_grp_w n)

theorem table_types_wild_w : ∀ {a_t : GTmk} {a_at_ : Int} {b_a_t : Nat} {v_a_t1 : Vt} {r : Bool × GTmk}, table_types_wild a_t a_at_ = some r → Ctr Tryz.prog 142 [ptrv b_a_t ((Fld.id ((Wr Vh) × GMod)).comp pt98_0_0), isv (a_at_)] [boxE b_a_t (((Wr.mk (Vh.mk v_a_t1 a_t.types.l.length)), a_t.m) : ((Wr Vh) × GMod)), vecE v_a_t1 (a_t.types.l : List GTyp)] (fun R H => R = oneOf [isv (r.1)] ∧ H = [boxE b_a_t (((Wr.mk (Vh.mk v_a_t1 r.2.types.l.length)), r.2.m)), vecE v_a_t1 (r.2.types.l)]) := by
 intro a_t a_at_ b_a_t v_a_t1 r h
 unfold table_types_wild at h
 refine spec_introD Tryz.func142 rfl fun w0 S0 hT => wsr (oA rfl (rnf (wsr (oT (t_alloc _ ze4 fun b2 => oT (t_storeC (y' := (false : Bool)) ty4 rfl rfl hI .here rfl (rnf (wsr ?_))))))))
 refine oT (t_alloc _ ze3 fun b3 => oT (t_storeC (y' := ((300 : Int) : Int)) ty3 rfl rfl hI .here rfl (rnf (wsr (oM rfl (oM rfl (oV (v_makeFunc (s1 rfl)) (cal_inv h fun y4 hy4 h => oT (t_callE (table_types_inner_w fuel hy4) hT (s4 rfl rfl rfl rfl) (.cons tI (.cons tI k2)) ?_)))))))))
 refine rnf (wsr (oT (t_loadC (R := isv (y4.2.2)) ty4 rfl (.there tI) hI (oA rfl (rnf (w_ret ?_))))))
 cases h
 exact ret_post (.tmp rfl .nil) k2 ⟨rfl, rfl⟩


theorem table_types_begins_c1_w : ∀ {a_x : GTyp} {a_a1 : (List Tag)} {b_a_a1 : Nat} {t_a_a11 : Tok} {r : (List Tag)}, table_types_begins_c1 a_x a_a1 = some r → Ctr Tryz.prog 149 [isv (a_x), ptrv b_a_a1 (Fld.id (TList Tag))] [boxE b_a_a1 ((TList.mk t_a_a11 a_a1) : (TList Tag)), tokE t_a_a11] (fun R H => ∃ u1 : Tok, R = oneOf [] ∧ H = [boxE b_a_a1 ((TList.mk u1 r)), tokE u1]) := by
 intro a_x a_a1 b_a_a1 t_a_a11 r h
 unfold table_types_begins_c1 at h
 refine spec_introD Tryz.func149 rfl fun w0 S0 hT => wsr (oT (t_boxIC (y := a_x) rfl hI (rnf (wsr (oV (v_fi rfl GTyp.f1 fd43_1 rfl (z := a_x.tags)) (oV (v_loadI ty37 rfl) (oV (v_ln (l := a_x.tags) rfl hI sl37) (oV (v_gtr rfl rfl) ?_))))))))
 refine rnf (w_condM h rfl (fun _ h => ?_) (fun _ h => ?_))
 ·refine w_regionD (.v 1 (.v 2 (.v 3 (.v 4 (.alt 0 (.t 5 (.t 6 (.t 7 .nil))) (.t 5 (.t 0 (.t 6 (.t 7 .nil))))))))) moOrd (by kernel_rfl) ?_
  refine rd_v rfl (v_fi rfl GTyp.f1 fd43_1 rfl (z := a_x.tags)) (rd_v rfl (v_loadI ty37 rfl) (cal_inv h fun y2 hy2 h => rd_v rfl (v_ix (l := a_x.tags) rfl hI rfl sl37 hy2) (rd_v rfl (v_loadI ty66 rfl) (asr_inv h fun q5 h => rd_two ?_ ?_))))
  ·refine rd_t rfl rfl (t_loadC (R := appv t_a_a11 (a_a1)) ty37 rfl .here isvT1 (rd_t rfl rfl (t_buildSlice (l := ([y2] : (List Tag))) el37 (.cons rfl hI .nil) rfl rfl (rd_t rfl rfl (t_appC (l := a_a1) (m := ([y2] : (List Tag))) ap37_37 rfl hI rfl appv_isv tH q5 fun t4 => rd_t rfl rfl (t_storeC (y' := ((TList.mk t4 (a_a1 ++ ([y2] : (List Tag)))) : (TList Tag))) ty37 rfl rfl isvT2 tH rfl (rd_nil (fin_post .nil k2 ?_))))))))
   cases h
   exact ⟨t4, rfl, rfl⟩
  refine rd_t rfl rfl (t_buildSlice (l := ([y2] : (List Tag))) el37 (.cons rfl hI .nil) rfl rfl (rd_t rfl rfl (t_loadC (R := appv t_a_a11 (a_a1)) ty37 rfl .here isvT1 (rd_t rfl rfl (t_appC (l := a_a1) (m := ([y2] : (List Tag))) ap37_37 rfl hI rfl appv_isv tH q5 fun t7 => rd_t rfl rfl (t_storeC (y' := ((TList.mk t7 (a_a1 ++ ([y2] : (List Tag)))) : (TList Tag))) ty37 rfl rfl isvT2 tH rfl (rd_nil (fin_post .nil k2 ?_))))))))
  cases h
  exact ⟨t7, rfl, rfl⟩
 refine w_skip (fin_post .nil k2 ?_)
 cases h
 exact ⟨t_a_a11, rfl, rfl⟩


def table_types_inner_1_C (f' : GTmk → Int → Int → (List Tag) → Option (GTmk × Int × (List Tag))) : Prop :=
 ∀ {a_t : GTmk} {a_at_ : Int} {a_left : Int} {a_do__0 : (List Tag)} {b_a_t : Nat} {v_a_t1 : Vt} {b_a_left : Nat} {b_a_do__0 : Nat} {t_a_do__02 : Tok} {r : GTmk × Int × (List Tag)}, f' a_t a_at_ a_left a_do__0 = some r → Ctr Tryz.prog 147 [ptrv b_a_t ((Fld.id ((Wr Vh) × GMod)).comp pt98_0_0), isv (a_at_), ptrv b_a_left (Fld.id Int), clov 149 [ptrv b_a_do__0 (Fld.id (TList Tag))]] [boxE b_a_t (((Wr.mk (Vh.mk v_a_t1 a_t.types.l.length)), a_t.m) : ((Wr Vh) × GMod)), vecE v_a_t1 (a_t.types.l : List GTyp), boxE b_a_left (a_left : Int), boxE b_a_do__0 ((TList.mk t_a_do__02 a_do__0) : (TList Tag)), tokE t_a_do__02] (fun R H => ∃ u1 : Tok, R = oneOf [] ∧ H = [boxE b_a_t (((Wr.mk (Vh.mk v_a_t1 r.1.types.l.length)), r.1.m)), vecE v_a_t1 (r.1.types.l), boxE b_a_left (r.2.1), boxE b_a_do__0 ((TList.mk u1 r.2.2)), tokE u1])
theorem table_types_inner_1_w0 {table_types_inner_1' : GTmk → Int → Int → (List Tag) → Option (GTmk × Int × (List Tag))} (h_table_types_inner_1 : table_types_inner_1_C table_types_inner_1') : ∀ {a_t : GTmk} {a_at_ : Int} {a_left : Int} {a_do__0 : (List Tag)} {b_a_t : Nat} {v_a_t1 : Vt} {b_a_left : Nat} {b_a_do__0 : Nat} {t_a_do__02 : Tok} {r : GTmk × Int × (List Tag)}, table_types_inner_1_F table_types_inner_1' a_t a_at_ a_left a_do__0 = some r → Ctr Tryz.prog 147 [ptrv b_a_t ((Fld.id ((Wr Vh) × GMod)).comp pt98_0_0), isv (a_at_), ptrv b_a_left (Fld.id Int), clov 149 [ptrv b_a_do__0 (Fld.id (TList Tag))]] [boxE b_a_t (((Wr.mk (Vh.mk v_a_t1 a_t.types.l.length)), a_t.m) : ((Wr Vh) × GMod)), vecE v_a_t1 (a_t.types.l : List GTyp), boxE b_a_left (a_left : Int), boxE b_a_do__0 ((TList.mk t_a_do__02 a_do__0) : (TList Tag)), tokE t_a_do__02] (fun R H => ∃ u1 : Tok, R = oneOf [] ∧ H = [boxE b_a_t (((Wr.mk (Vh.mk v_a_t1 r.1.types.l.length)), r.1.m)), vecE v_a_t1 (r.1.types.l), boxE b_a_left (r.2.1), boxE b_a_do__0 ((TList.mk u1 r.2.2)), tokE u1]) := by
 intro a_t a_at_ a_left a_do__0 b_a_t v_a_t1 b_a_left b_a_do__0 t_a_do__02 r h
 unfold table_types_inner_1_F at h
 refine spec_introD Tryz.func147 rfl fun w0 S0 hT => w_seq (wsr (oM rfl (oV (v_lss rfl rfl) (oM rfl (rl_j (jb 21) je .nil h 8 rfl (fun q3 g3 h => ?_) (fun J4 h hJ4 => ?_))))))
 ·refine oM rfl (rl_j (jb 27) je .nil h 5 rfl (fun q6 g6 h => ?_) (fun J7 h hJ7 => ?_))
  ·refine rnf (w_condM h rfl (fun _ h => ?_) (fun _ h => ?_))
   ·refine w_ret (ret_nxt (ret_post .nil (.cons .here k4) ?_))
    cases h
    exact ⟨t_a_do__02, rfl, rfl⟩
   refine wkf (wsr (oM rfl (oV (v_nilCheck rfl) (oT (t_loadC (R := isv (a_left)) ty3 rfl tI hI (ck_inv h fun q9 h => oV (v_sub rfl rfl q9) (oV (v_nilCheck rfl) (oT (t_storeC (y' := ((a_left - (1 : Int)) : Int)) ty3 rfl rfl hI tI rfl ?_)))))))))
   refine rnf (wsr (oM rfl (oV (v_nilCheck rfl) (oV (v_fa rfl pt96_0_0 fd96_0) (oT (t_loadC (R := vecv v_a_t1 (a_t.types.l.length)) ty31 rfl tH isvV1 (oM rfl (asd_inv h fun q10 h => oV (v_vidx (α := GTyp) sl31 rfl rfl q10.1 q10.2) ?_))))))))
   refine cal_inv h fun y11 hy11 h => oT (t_vload ty43 rfl tI hy11 ?_)
   refine oT (t_alloc _ ze43 fun b12 => oT (t_storeC (y' := (y11 : GTyp)) ty43 rfl rfl hI .here rfl (rl_upd (upd_imm 8 .here rfl) (rnf (wsr (oM rfl (oV (v_loadI ty43 rfl) (cal_inv h fun y13 hy13 h => oT (t_callC rfl (s1 rfl) (table_types_begins_c1_w hy13) hT (.cons (.there tI) (.cons (.there tI) .nil)) (fun R H' hR => ?_))))))))))
   obtain ⟨t14, rfl, rfl⟩ := hR
   refine rnf (w_seq (wsr (oV (v_fi rfl GTyp.f1 fd43_1 rfl (z := y11.tags)) (oV (v_loadI ty37 rfl) (oV (v_ln (l := y11.tags) rfl hI sl37) (oV (v_gtr rfl rfl) (rnf (w_condM h rfl (fun _ h => ?_) (fun _ h => ?_)))))))))
   ·refine w_ret (ret_nxt (ret_post .nil (.cons (.there tI) (.cons (.there tI) (.cons tI k2))) ?_))
    cases h
    exact ⟨t14, rfl, rfl⟩
   refine wkf (wsr (oV (v_fi rfl GTyp.f4 fd43_4 rfl (z := y11.fields)) (oV (v_loadI ty41 rfl) (oV (v_ln (l := y11.fields) rfl hI sl41) (oM rfl (rnf (w_block (w_lp (ι := Int × (List Tag) × Int × GTmk) (γ := Tok) (fun q15 g15 => [(50, isv (q15.1))]) (fun q15 g15 => [boxE b_a_do__0 ((TList.mk g15 q15.2.1) : (TList Tag)), tokE g15, boxE b_a_left (q15.2.2.1 : Int), boxE b_a_t (((Wr.mk (Vh.mk v_a_t1 q15.2.2.2.types.l.length)), q15.2.2.2.m) : ((Wr Vh) × GMod)), vecE v_a_t1 (q15.2.2.2.types.l : List GTyp)]) h (t14) (mod_cons (j := 50) rfl hI mod_nil) (.cons .here k4) (fun L16 q15 g15 Q27 h hL16 eL16 rL16 => ?_)))))))))
   refine wsr (oV (v_lss rfl rfl) (rnf (w_seq (w_condM h rfl (fun _ h => ?_) (fun _ h => ?_)))))
   ·refine wkf (w_seq (w_block (wsr (cal_inv h fun y22 hy22 h => oV (v_ix (l := y11.fields) rfl hI rfl sl41 hy22) (oV (v_loadI ty51 rfl) (oT (t_alloc _ ze51 fun b23 => oT (t_storeC (y' := (y22 : GFld)) ty51 rfl rfl hI .here rfl ?_))))))))
    refine rl_upd (upd_imm 10 .here rfl) (rnf (w_region (oM rfl (oV (v_fi rfl GFld.f1 fd51_1 rfl (z := y22.ty)) (oV (v_loadI ty3 rfl) (oM rfl (oM rfl (cal_inv h fun y24 hy24 h => ?_))))))))
    refine oT (t_call (h_table_types_inner_1 hy24) hT (s4 rfl rfl rfl rfl) (.cons (.there tI) (.cons (.there tI) (.cons tI k2))) (fun R H' hR => ?_))
    obtain ⟨t25, rfl, rfl⟩ := hR
    exact rl_nil (fin_block (fin_nxt (w_region (ck_inv h fun q26 h => oV (v_add rfl rfl q26) (oM rfl (rl_nil (hL16 _ (t25) h _ (join_imp 14 rfl rfl (mod_cons (j := 50) rfl hI mod_nil) (.cons (.there tI) (.cons (.there tI) (.cons tI k2)))))))))))
   refine w_exit (exi_nxt (eL16 _ _ (exi_block (fin_post .nil (.cons (.there tI) (.cons (.there tI) (.cons tI k2))) ?_))))
   cases h
   exact ⟨g15, rfl, rfl⟩
  refine rl_condM (j := 22) h rfl (fun g8 h => ?_) (fun g8 h => ?_)
  ·exact oP 22 rfl rfl g8 (oP 22 rfl rfl g8 (oP 22 rfl rfl g8 (oP 22 rfl rfl g8 (oV (v_pick_t rfl g8 rfl) (hJ7 _ () h _ (join_imp 5 rfl rfl (mod_cons (j := 27) rfl hI mod_nil) (.cons .here k4)))))))
  exact oK 22 rfl rfl rfl g8 (v_move rfl) (oK 22 rfl rfl rfl g8 (v_nilCheck rfl) (op_take rfl rfl (dj := 22) rfl g8 (t_loadC (R := isv (a_left)) ty3 rfl tI hI (oK 22 rfl rfl rfl g8 (v_eql rfl rfl) (oV (v_pick_f rfl g8 rfl) (hJ7 _ () h _ (join_imp 5 rfl rfl (mod_cons (j := 27) rfl hI mod_nil) (.cons .here k4))))))))
 refine rl_condM (j := 13) h rfl (fun g5 h => ?_) (fun g5 h => ?_)
 ·exact oP 13 rfl rfl g5 (oP 13 rfl rfl g5 (oP 13 rfl rfl g5 (oP 13 rfl rfl g5 (oP 13 rfl rfl g5 (oP 13 rfl rfl g5 (oP 13 rfl rfl g5 (oV (v_pick_t rfl g5 rfl) (hJ4 _ () h _ (join_imp 8 rfl rfl (mod_cons (j := 21) rfl hI mod_nil) (.cons .here k4))))))))))
 exact oK 13 rfl rfl rfl g5 (v_move rfl) (oK 13 rfl rfl rfl g5 (v_move rfl) (oK 13 rfl rfl rfl g5 (v_nilCheck rfl) (oK 13 rfl rfl rfl g5 (v_fa rfl pt96_0_0 fd96_0) (op_take rfl rfl (dj := 13) rfl g5 (t_loadC (R := vecv v_a_t1 (a_t.types.l.length)) ty31 rfl .here isvV1 (oK 13 rfl rfl rfl g5 (v_vlen sl31 rfl) (oK 13 rfl rfl rfl g5 (v_geq rfl rfl) (oV (v_pick_f rfl g5 rfl) (hJ4 _ () h _ (join_imp 8 rfl rfl (mod_cons (j := 21) rfl hI mod_nil) (.cons .here k4)))))))))))

theorem table_types_inner_1_grp_w : ∀ n, table_types_inner_1_C (table_types_inner_1 n)
 | 0 => fun h => (by cases h)
 | n + 1 => table_types_inner_1_w0 (table_types_inner_1_grp_w n)
theorem table_types_inner_1_w (n : Nat) : table_types_inner_1_C (table_types_inner_1 n) := (table_types_inner_1_grp_w n)

theorem table_types_begins_w : ∀ {a_t : GTmk} {a_at_ : Int} {b_a_t : Nat} {v_a_t1 : Vt} {r : (List Tag) × GTmk}, table_types_begins a_t a_at_ = some r → Ctr Tryz.prog 143 [ptrv b_a_t ((Fld.id ((Wr Vh) × GMod)).comp pt98_0_0), isv (a_at_)] [boxE b_a_t (((Wr.mk (Vh.mk v_a_t1 a_t.types.l.length)), a_t.m) : ((Wr Vh) × GMod)), vecE v_a_t1 (a_t.types.l : List GTyp)] (fun R H => R = oneOf [isv (r.1)] ∧ H = [boxE b_a_t (((Wr.mk (Vh.mk v_a_t1 r.2.types.l.length)), r.2.m)), vecE v_a_t1 (r.2.types.l)]) := by
 intro a_t a_at_ b_a_t v_a_t1 r h
 unfold table_types_begins at h
 refine spec_introD Tryz.func143 rfl fun w0 S0 hT => wsr (oA rfl (rnf (wsr (oT (t_alloc _ zt37_6 fun b2 => rl_upd (upd_tok) (rnf (wsr ?_)))))))
 refine oT (t_alloc _ ze3 fun b4 => oT (t_storeC (y' := ((300 : Int) : Int)) ty3 rfl rfl hI .here rfl (rnf (wsr (oM rfl (oM rfl (oV (v_makeFunc (s1 rfl)) (cal_inv h fun y5 hy5 h => oT (t_call (table_types_inner_1_w fuel hy5) hT (s4 rfl rfl rfl rfl) (.cons (.there tI) (.cons (.there tI) (.cons .here (.cons tH k1)))) (fun R H' hR => ?_))))))))))
 obtain ⟨t6, rfl, rfl⟩ := hR
 refine rnf (wsr (oT (t_loadC (R := appv t6 (y5.2.2)) ty37 rfl (.there tI) isvT1 (oA rfl (rnf (w_ret ?_))))))
 cases h
 exact ret_post (.as rfl appv_isv .nil) k2 ⟨rfl, rfl⟩


theorem table_types_told_w : ∀ {a_t : GTmk} {a_l : (List GFld)} {a_open_ : Bool} {b_a_t : Nat} {v_a_t1 : Vt} {r : Bool × GTmk}, table_types_told a_t a_l a_open_ = some r → Ctr Tryz.prog 131 [ptrv b_a_t ((Fld.id ((Wr Vh) × GMod)).comp pt98_0_0), isv (a_l), isv (a_open_)] [boxE b_a_t (((Wr.mk (Vh.mk v_a_t1 a_t.types.l.length)), a_t.m) : ((Wr Vh) × GMod)), vecE v_a_t1 (a_t.types.l : List GTyp)] (fun R H => R = oneOf [isv (r.1)] ∧ H = [boxE b_a_t (((Wr.mk (Vh.mk v_a_t1 r.2.types.l.length)), r.2.m)), vecE v_a_t1 (r.2.types.l)]) := by
 intro a_t a_l a_open_ b_a_t v_a_t1 r h
 unfold table_types_told at h
 refine spec_introD Tryz.func131 rfl fun w0 S0 hT => wsr (oA rfl (rnf (wsr (oA rfl (rnf (w_seq (wsr ?_)))))))
 refine oM rfl (oV (v_ln (l := a_l) rfl hI sl41) (oM rfl (rnf (w_block (w_upd (upd_tok) (w_lp (ι := (List (List Tag)) × Int × GTmk) (γ := Tok) (fun q2 g2 => [(7, appv g2 (q2.1)), (12, isv (q2.2.1))]) (fun q2 g2 => [tokE g2, boxE b_a_t (((Wr.mk (Vh.mk v_a_t1 q2.2.2.types.l.length)), q2.2.2.m) : ((Wr Vh) × GMod)), vecE v_a_t1 (q2.2.2.types.l : List GTyp)]) h (none) (mod_cons (j := 7) rfl nilv_appv (mod_cons (j := 12) rfl hI mod_nil)) k3 (fun L3 q2 g2 Q35 h hL3 eL3 rL3 => wsr (oV (v_lss rfl rfl) ?_))))))))
 refine rnf (w_seq (w_condM h rfl (fun _ h => ?_) (fun _ h => ?_)))
 ·refine wkf (w_seq (w_block (wsr (cal_inv h fun y19 hy19 h => oV (v_ix (l := a_l) rfl hI rfl sl41 hy19) (oV (v_loadI ty51 rfl) (oT (t_alloc _ ze51 fun b20 => oT (t_storeC (y' := (y19 : GFld)) ty51 rfl rfl hI .here rfl ?_))))))))
  refine rl_upd (upd_imm 9 .here rfl) (rnf (w_seq (wsr (oM rfl (oV (v_fi rfl GFld.f1 fd51_1 rfl (z := y19.ty)) (oV (v_loadI ty3 rfl) (cal_inv h fun y21 hy21 h => oT (t_callE (table_types_wild_w hy21) hT (s2 rfl rfl) (.cons tH (.cons tH .nil)) ?_))))))))
  refine oM rfl (rl_j (jb 27) je .nil h 7 rfl (fun q22 g22 h => ?_) (fun J23 h hJ23 => ?_))
  ·refine rnf (w_condM h rfl (fun _ h => ?_) (fun _ h => ?_))
   ·refine wsr (oA rfl (rnf (w_ret (ret_nxt (ret_block (ret_nxt (rL3 _ (ret_block ?_))))))))
    refine ret_nxt ?_
    cases h
    exact ret_post (.tmp rfl .nil) k2 ⟨rfl, rfl⟩
   refine wkf (w_region (oM rfl (oM rfl (oV (v_fi rfl GFld.f1 fd51_1 rfl (z := y19.ty)) (oV (v_loadI ty3 rfl) (cal_inv h fun y28 hy28 h => oT (t_callE (table_types_begins_w hy28) hT (s2 rfl rfl) k2 (oT (t_buildSlice (l := ([y28.1] : (List (List Tag)))) el44 (.cons rfl hI .nil) rfl rfl ?_)))))))))
   refine asr_inv h fun q31 h => oT (t_appC (l := q2.1) (m := ([y28.1] : (List (List Tag)))) ap44_44 rfl hI rfl appv_isv tI q31 fun t30 => oA rfl (rl_nil (fin_block (fin_nxt (w_region (ck_inv h fun q32 h => oV (v_add rfl rfl q32) ?_))))))
   exact oM rfl (rl_nil (hL3 _ (t30) h _ (join_imp 23 rfl rfl (mod_cons (j := 7) rfl hI (mod_cons (j := 12) rfl hI mod_nil)) k3)))
  refine rl_condM (j := 20) h rfl (fun g24 h => ?_) (fun g24 h => ?_)
  ·refine oK 20 rfl rfl rfl g24 (v_move rfl) (oK 20 rfl rfl rfl g24 (v_move rfl) (rl_j (jb 26) je .nil h 4 rfl (fun q25 g25 h => ?_) (fun J26 h hJ26 => ?_)))
   ·exact oV (v_pick_t rfl g24 rfl) (hJ23 _ () h _ (join_imp 4 rfl rfl (mod_cons (j := 27) rfl hI mod_nil) k3))
   refine rl_condM (j := 22) h rfl (fun g27 h => ?_) (fun g27 h => ?_)
   ·exact oP 22 rfl rfl g27 (oP 22 rfl rfl g27 (oP 22 rfl rfl g27 (oK 20 rfl rfl rfl g24 (v_pick_t rfl g27 rfl) (hJ26 _ () h _ (join_imp 4 rfl rfl (mod_cons (j := 26) rfl hI mod_nil) k3)))))
   exact oK 22 rfl rfl rfl g27 (v_move rfl) (oK 22 rfl rfl rfl g27 (v_ln (l := a_l) rfl hI sl41) (oK 22 rfl rfl rfl g27 (v_gtr rfl rfl) (oK 20 rfl rfl rfl g24 (v_pick_f rfl g27 rfl) (hJ26 _ () h _ (join_imp 4 rfl rfl (mod_cons (j := 26) rfl hI mod_nil) k3)))))
  exact oP 20 rfl rfl g24 (oP 20 rfl rfl g24 (op_passU rfl (dj := 22) rfl (op_passU rfl (dj := 22) rfl (op_passU rfl (dj := 22) rfl (oP 20 rfl rfl g24 (oV (v_pick_f rfl g24 rfl) (hJ23 _ () h _ (join_imp 7 rfl rfl (mod_cons (j := 27) rfl hI mod_nil) k3))))))))
 refine w_exit (exi_nxt (eL3 _ _ (exi_block (fin_nxt (wsr (oM rfl (cal_inv h fun y33 hy33 h => oT (t_callE (tags_Distinct_w hy33) hT (.cons rfl appv_isv .nil) .nil ?_))))))))
 refine oA rfl (rnf (w_ret ?_))
 cases h
 exact ret_post (.tmp rfl .nil) (.cons tH (.cons tH .nil)) ⟨rfl, rfl⟩


theorem table_Loose_w : ∀ {a_t : GTyp} {a_k : Int} {r : Bool}, table_Loose a_t a_k = some r → Ctr Tryz.prog 132 [isv (a_t), isv (a_k)] [] (fun R H => R = oneOf [isv (r)] ∧ H = []) := by
 intro a_t a_k r h
 unfold table_Loose at h
 refine spec_introD Tryz.func132 rfl fun w0 S0 hT => wsr (oT (t_boxIC (y := a_t) rfl hI (oA rfl (rnf (wsr (oV (v_fi rfl GTyp.f4 fd43_4 rfl (z := a_t.fields)) (oV (v_loadI ty41 rfl) (oM rfl ?_))))))))
 refine cal_inv h fun y1 hy1 h => oV (v_ix (l := a_t.fields) rfl hI rfl sl41 hy1) (oV (v_fi rfl GFld.f2 fd51_2 rfl (z := y1.optional)) (oV (v_loadI ty4 rfl) (oM rfl (rl_j (jb 18) je .nil h 7 rfl (fun q2 g2 h => ?_) (fun J3 h hJ3 => ?_)))))
 ·refine oM rfl (rl_j (jb 24) je .nil h 5 rfl (fun q6 g6 h => ?_) (fun J7 h hJ7 => ?_))
  ·refine oA rfl (rnf (w_ret ?_))
   cases h
   exact ret_post (.tmp rfl .nil) .nil ⟨rfl, rfl⟩
  refine rl_condM (j := 19) h rfl (fun g8 h => ?_) (fun g8 h => ?_)
  ·exact oP 19 rfl rfl g8 (oP 19 rfl rfl g8 (oP 19 rfl rfl g8 (oP 19 rfl rfl g8 (oV (v_pick_t rfl g8 rfl) (hJ7 _ () h _ (ji 5 24 rfl rfl rfl))))))
  exact oK 19 rfl rfl rfl g8 (v_move rfl) (oK 19 rfl rfl rfl g8 (v_fi rfl GTyp.f5 fd43_5 rfl (z := a_t.root)) (oK 19 rfl rfl rfl g8 (v_loadI ty3 rfl) (oK 19 rfl rfl rfl g8 (v_geq rfl rfl) (oV (v_pick_f rfl g8 rfl) (hJ7 _ () h _ (ji 5 24 rfl rfl rfl))))))
 refine rl_condM (j := 11) h rfl (fun g4 h => ?_) (fun g4 h => ?_)
 ·exact oP 11 rfl rfl g4 (oP 11 rfl rfl g4 (oP 11 rfl rfl g4 (oP 11 rfl rfl g4 (oP 11 rfl rfl g4 (oP 11 rfl rfl g4 (oV (v_pick_t rfl g4 rfl) (hJ3 _ () h _ (ji 7 18 rfl rfl rfl))))))))
 exact oK 11 rfl rfl rfl g4 (v_fi rfl GTyp.f4 fd43_4 rfl (z := a_t.fields)) (oK 11 rfl rfl rfl g4 (v_loadI ty41 rfl) (oK 11 rfl rfl rfl g4 (v_move rfl) (cal_inv h fun y5 hy5 h => oK 11 rfl rfl rfl g4 (v_ix (l := a_t.fields) rfl hI rfl sl41 hy5) (oK 11 rfl rfl rfl g4 (v_fi rfl GFld.f3 fd51_3 rfl (z := y5.has)) (oK 11 rfl rfl rfl g4 (v_loadI ty4 rfl) (oV (v_pick_f rfl g4 rfl) (hJ3 _ () h _ (ji 7 18 rfl rfl rfl))))))))


theorem table_Last_w : ∀ {a_t : GTyp} {r : Int}, table_Last a_t = some r → Ctr Tryz.prog 133 [isv (a_t)] [] (fun R H => R = oneOf [isv (r)] ∧ H = []) := by
 intro a_t r h
 unfold table_Last at h
 refine spec_introD Tryz.func133 rfl fun w0 S0 hT => wsr (oT (t_boxIC (y := a_t) rfl hI (oA rfl (rnf (wsr (oV (v_fi rfl GTyp.f5 fd43_5 rfl (z := a_t.root)) (oV (v_loadI ty3 rfl) (oV (v_max rfl rfl) ?_))))))))
 refine oV (v_fi rfl GTyp.f4 fd43_4 rfl (z := a_t.fields)) (oV (v_loadI ty41 rfl) (oV (v_ln (l := a_t.fields) rfl hI sl41) (oV (v_min rfl rfl) (oA rfl (rnf (w_seq (w_block (w_lp (ι := Int) (γ := Unit) (fun q1 g1 => [(3, isv (q1))]) (fun q1 g1 => []) h () (mod_cons (j := 3) rfl hI mod_nil) .nil (fun L2 q1 g1 Q15 h hL2 eL2 rL2 => ?_)))))))))
 refine w_seq (wsr (oM rfl (oV (v_gtr rfl rfl) (oM rfl (rl_j (jb 18) je .nil h 5 rfl (fun q9 g9 h => ?_) (fun J10 h hJ10 => ?_))))))
 ·refine rnf (w_condM h rfl (fun _ h => ?_) (fun _ h => ?_))
  ·refine wkf (w_block (w_region (oM rfl (ck_inv h fun q14 h => oV (v_sub rfl rfl q14) (oA rfl (rl_nil (fin_block ?_)))))))
   exact hL2 _ () h _ (ji 8 3 rfl rfl rfl)
  refine w_exit (exi_nxt (eL2 _ _ (exi_block (fin_nxt (wsr (oM rfl (oA rfl (rnf ?_))))))))
  refine w_ret ?_
  cases h
  exact ret_post (.tmp rfl .nil) .nil ⟨rfl, rfl⟩
 refine rl_condM (j := 13) h rfl (fun g11 h => ?_) (fun g11 h => ?_)
 ·exact oK 13 rfl rfl rfl g11 (v_loadI ty43 rfl) (oK 13 rfl rfl rfl g11 (v_move rfl) (ck_inv h fun q12 h => oK 13 rfl rfl rfl g11 (v_sub rfl rfl q12) (cal_inv h fun y13 hy13 h => op_take rfl rfl (dj := 13) rfl g11 (t_callE (table_Loose_w hy13) hT (s2 rfl rfl) .nil (oV (v_pick_t rfl g11 rfl) (hJ10 _ () h _ (ji 5 18 rfl rfl rfl)))))))
 exact oP 13 rfl rfl g11 (oP 13 rfl rfl g11 (oP 13 rfl rfl g11 (oP 13 rfl rfl g11 (oV (v_pick_f rfl g11 rfl) (hJ10 _ () h _ (ji 5 18 rfl rfl rfl))))))


theorem table_types_apart_w : ∀ {a_t : GTmk} {a_x : GTyp} {b_a_t : Nat} {v_a_t1 : Vt} {r : Bool × GTmk}, table_types_apart a_t a_x = some r → Ctr Tryz.prog 113 [ptrv b_a_t ((Fld.id ((Wr Vh) × GMod)).comp pt98_0_0), isv (a_x)] [boxE b_a_t (((Wr.mk (Vh.mk v_a_t1 a_t.types.l.length)), a_t.m) : ((Wr Vh) × GMod)), vecE v_a_t1 (a_t.types.l : List GTyp)] (fun R H => R = oneOf [isv (r.1)] ∧ H = [boxE b_a_t (((Wr.mk (Vh.mk v_a_t1 r.2.types.l.length)), r.2.m)), vecE v_a_t1 (r.2.types.l)]) := by
 intro a_t a_x b_a_t v_a_t1 r h
 unfold table_types_apart at h
 refine spec_introD Tryz.func113 rfl fun w0 S0 hT => wsr (oT (t_boxIC (y := a_x) rfl hI (oA rfl (rnf (w_seq (wsr (oV (v_fi rfl GTyp.f0 fd43_0 rfl (z := a_x.kind)) (oV (v_loadI ty3 rfl) ?_))))))))
 refine oV (v_neq rfl rfl) (rnf (w_condM h rfl (fun _ h => ?_) (fun _ h => ?_)))
 ·refine wsr (oM rfl (oV (v_fi rfl GTyp.f4 fd43_4 rfl (z := a_x.fields)) (oV (v_loadI ty41 rfl) (oV (v_fi rfl GTyp.f6 fd43_6 rfl (z := a_x.more)) (oV (v_loadI ty4 rfl) (cal_inv h fun y2 hy2 h => oT (t_callE (table_types_told_w hy2) hT (s3 rfl rfl rfl) k2 (oA rfl ?_))))))))
  refine rnf (w_ret (ret_nxt ?_))
  cases h
  exact ret_post (.tmp rfl .nil) k2 ⟨rfl, rfl⟩
 refine wkf (w_seq (wsr (oV (v_fi rfl GTyp.f4 fd43_4 rfl (z := a_x.fields)) (oV (v_loadI ty41 rfl) (oV (v_ln (l := a_x.fields) rfl hI sl41) (oM rfl (rnf (w_block ?_))))))))
 refine w_lp (ι := Int × GTmk) (γ := Unit) (fun q3 g3 => [(19, isv (q3.1))]) (fun q3 g3 => [boxE b_a_t (((Wr.mk (Vh.mk v_a_t1 q3.2.types.l.length)), q3.2.m) : ((Wr Vh) × GMod)), vecE v_a_t1 (q3.2.types.l : List GTyp)]) h () (mod_cons (j := 19) rfl hI mod_nil) k2 (fun L4 q3 g3 Q65 h hL4 eL4 rL4 => wsr (oV (v_lss rfl rfl) (rnf (w_seq (w_condM h rfl (fun _ h => ?_) (fun _ h => ?_))))))
 ·refine wkf (w_seq (w_J (ι := GTmk) (γ := Unit) (fun q35 g35 => []) (fun q35 g35 => [boxE b_a_t (((Wr.mk (Vh.mk v_a_t1 q35.types.l.length)), q35.m) : ((Wr Vh) × GMod)), vecE v_a_t1 (q35.types.l : List GTyp)]) k2 h (fun q35 g35 h => ?_) (fun J36 h hJ36 => ?_)))
  ·exact w_region (ck_inv h fun q58 h => oV (v_add rfl rfl q58) (oM rfl (rl_nil (hL4 _ () h _ (join_imp 4 rfl rfl (mod_cons (j := 19) rfl hI mod_nil) k2)))))
  refine w_block (wsr (oM rfl (oA rfl (rnf (w_seq (wsr (oV (v_loadI ty43 rfl) (oM rfl ?_))))))))
  refine cal_inv h fun y37 hy37 h => oT (t_callE (table_Loose_w hy37) hT (s2 rfl rfl) .nil (oV (v_not rfl) (rnf (w_condM h rfl (fun _ h => ?_) (fun _ h => ?_)))))
  ·exact w_exit (exi_nxt (exi_block (hJ36 _ () h _ (join_imp 6 rfl rfl mod_nil k2))))
  refine wkf (wsr (oM rfl (ck_inv h fun q38 h => oV (v_add rfl rfl q38) (oA rfl (rnf (w_seq (w_block ?_)))))))
  refine w_lp (ι := Int) (γ := Unit) (fun q39 g39 => [(6, isv (q39))]) (fun q39 g39 => []) h () (mod_cons (j := 6) rfl hI mod_nil) .nil (fun L40 q39 g39 Q57 h hL40 eL40 rL40 => w_seq (wsr (oM rfl (oV (v_fi rfl GTyp.f4 fd43_4 rfl (z := a_x.fields)) (oV (v_loadI ty41 rfl) (oV (v_ln (l := a_x.fields) rfl hI sl41) (oV (v_lss rfl rfl) (oM rfl ?_))))))))
  refine rl_j (jb 38) je .nil h 5 rfl (fun q49 g49 h => ?_) (fun J50 h hJ50 => ?_)
  ·refine rnf (w_condM h rfl (fun _ h => ?_) (fun _ h => ?_))
   ·refine wkf (w_block (w_region (oM rfl (ck_inv h fun q54 h => oV (v_add rfl rfl q54) (oA rfl (rl_nil (fin_block ?_)))))))
    exact hL40 _ () h _ (join_imp 11 rfl rfl (mod_cons (j := 6) rfl hI mod_nil) k2)
   refine w_exit (exi_nxt (eL40 _ _ (exi_block (fin_nxt (wsr (oM rfl (oV (v_fi rfl GTyp.f4 fd43_4 rfl (z := a_x.fields)) (oV (v_loadI ty41 rfl) ?_))))))))
   refine oM rfl (oM rfl (asd_inv h fun q55 h => oV (v_sl (l := a_x.fields) rfl hI sl41 (.inr ⟨_, rfl, rfl⟩) (.inr ⟨_, rfl, rfl⟩) q55.1 q55.2.1 q55.2.2) (cal_inv h fun y56 hy56 h => oT (t_callE (table_types_told_w hy56) hT (s3 rfl rfl rfl) k2 (oV (v_not rfl) (rnf (w_condM h rfl (fun _ h => ?_) (fun _ h => ?_))))))))
   ·refine wsr (oA rfl (rnf (w_ret (ret_block (ret_nxt (rL4 _ (ret_block (ret_nxt ?_))))))))
    cases h
    exact ret_post (.tmp rfl .nil) k2 ⟨rfl, rfl⟩
   exact w_skip (fin_block (hJ36 _ () h _ (join_imp 25 rfl rfl mod_nil k2)))
  refine rl_condM (j := 33) h rfl (fun g51 h => ?_) (fun g51 h => ?_)
  ·exact oK 33 rfl rfl rfl g51 (v_loadI ty43 rfl) (oK 33 rfl rfl rfl g51 (v_move rfl) (ck_inv h fun q52 h => oK 33 rfl rfl rfl g51 (v_sub rfl rfl q52) (cal_inv h fun y53 hy53 h => op_take rfl rfl (dj := 33) rfl g51 (t_callE (table_Loose_w hy53) hT (s2 rfl rfl) .nil (oV (v_pick_t rfl g51 rfl) (hJ50 _ () h _ (join_imp 5 rfl rfl (mod_cons (j := 38) rfl hI mod_nil) k2)))))))
  exact oP 33 rfl rfl g51 (oP 33 rfl rfl g51 (oP 33 rfl rfl g51 (oP 33 rfl rfl g51 (oV (v_pick_f rfl g51 rfl) (hJ50 _ () h _ (join_imp 5 rfl rfl (mod_cons (j := 38) rfl hI mod_nil) k2))))))
 refine w_exit (exi_nxt (eL4 _ _ (exi_block (fin_nxt (w_seq (w_regionD (.v 0 (.v 1 (.v 2 (.v 3 (.v 4 (.v 5 (.v 6 (.v 7 (.t 8 (.v 9 (.t 10 (.v 11 (.v 12 .nil))))))))))))) moOrd (by kernel_rfl) ?_))))))
 refine rd_v rfl (v_fi rfl GTyp.f6 fd43_6 rfl (z := a_x.more)) (rd_v rfl (v_loadI ty4 rfl) (rd_v rfl (v_not rfl) (rvm rfl rfl (rd_j (ι := Bool × GTmk) (γ := Unit) (fun q59 g59 => [(61, isv (q59.1))]) (fun q59 g59 => [boxE b_a_t (((Wr.mk (Vh.mk v_a_t1 q59.2.types.l.length)), q59.2.m) : ((Wr Vh) × GMod)), vecE v_a_t1 (q59.2.types.l : List GTyp)]) k2 h 8 rfl (fun q59 g59 h => ?_) (fun J60 h hJ60 => ?_)))))
 ·refine rd_v rfl (v_assign rfl) (rd_nil (fin_nxt (w_ret ?_)))
  cases h
  exact ret_post (.tmp rfl .nil) k2 ⟨rfl, rfl⟩
 refine rd_condM (j := 53) h rfl (fun g61 h => ?_) (fun g61 h => ?_)
 ·exact rpv 53 rfl rfl rfl g61 (rpv 53 rfl rfl rfl g61 (rpv 53 rfl rfl rfl g61 (rpv 53 rfl rfl rfl g61 (rd_passT rfl rfl (dj := 53) rfl g61 (rpv 53 rfl rfl rfl g61 (rd_passT rfl rfl (dj := 53) rfl g61 (rd_v rfl (v_pick_t rfl g61 rfl) (hJ60 _ () h _ (join_imp 8 rfl rfl (mod_cons (j := 61) rfl hI mod_nil) k2)))))))))
 refine rvt 53 rfl rfl rfl g61 (v_move rfl) (rvt 53 rfl rfl rfl g61 (v_fi rfl GTyp.f4 fd43_4 rfl (z := a_x.fields)) (rvt 53 rfl rfl rfl g61 (v_loadI ty41 rfl) (rvt 53 rfl rfl rfl g61 (v_loadI ty43 rfl) (cal_inv h fun y62 hy62 h => rd_tt rfl rfl rfl (dj := 53) rfl g61 (t_callE (table_Last_w hy62) hT (s1 rfl) .nil (asd_inv h fun q63 h => rvt 53 rfl rfl rfl g61 (v_sl (l := a_x.fields) rfl hI sl41 (.inr ⟨_, rfl, rfl⟩) (.inl ⟨rfl, rfl⟩) q63.1 q63.2.1 q63.2.2) (cal_inv h fun y64 hy64 h => ?_)))))))
 exact rd_tt rfl rfl rfl (dj := 53) rfl g61 (t_callE (table_types_told_w hy64) hT (s3 rfl rfl rfl) k2 (rd_v rfl (v_pick_f rfl g61 rfl) (hJ60 _ () h _ (join_imp 8 rfl rfl (mod_cons (j := 61) rfl hI mod_nil) k2))))


theorem table_maker_marked_w : ∀ {a_x : GTmk} {a_at_ : Int} {a_m : GMark} {b_a_x : Nat} {v_a_x1 : Vt} {r : Int × GTmk}, table_maker_marked a_x a_at_ a_m = some r → Ctr Tryz.prog 62 [ptrv b_a_x (Fld.id ((Wr Vh) × GMod)), isv (a_at_), isv (a_m)] [boxE b_a_x (((Wr.mk (Vh.mk v_a_x1 a_x.types.l.length)), a_x.m) : ((Wr Vh) × GMod)), vecE v_a_x1 (a_x.types.l : List GTyp)] (fun R H => R = oneOf [isv (r.1)] ∧ H = [boxE b_a_x (((Wr.mk (Vh.mk v_a_x1 r.2.types.l.length)), r.2.m)), vecE v_a_x1 (r.2.types.l)]) := by
 intro a_x a_at_ a_m b_a_x v_a_x1 r h
 unfold table_maker_marked at h
 refine spec_introD Tryz.func62 rfl fun w0 S0 hT => wsr (oT (t_boxIC (y := a_m) rfl hI (oA rfl (rnf (w_seq (wsr (oV (v_fi rfl GMark.f0 fd118_0 rfl (z := a_m.has)) (oV (v_loadI ty4 rfl) ?_))))))))
 refine oV (v_not rfl) (rnf (w_condM h rfl (fun _ h => ?_) (fun _ h => ?_)))
 ·refine wsr (oA rfl (rnf (w_ret (ret_nxt ?_))))
  cases h
  exact ret_post (.tmp rfl .nil) k2 ⟨rfl, rfl⟩
 refine wkf (wsr (oA rfl (rnf (w_seq (w_J (ι := Int × GTmk) (γ := Unit) (fun q2 g2 => [(7, isv (q2.1))]) (fun q2 g2 => [boxE b_a_x (((Wr.mk (Vh.mk v_a_x1 q2.2.types.l.length)), q2.2.m) : ((Wr Vh) × GMod)), vecE v_a_x1 (q2.2.types.l : List GTyp)]) k2 h (fun q2 g2 h => ?_) (fun J3 h hJ3 => ?_))))))
 ·refine wsr (oM rfl (oM rfl (oV (v_fi rfl GMark.f1 fd118_1 rfl (z := a_m.number)) (oV (v_loadI ty3 rfl) (oM rfl (cal_inv h fun y8 hy8 h => oT (t_callE (table_maker_wrap_w hy8) hT (s4 rfl rfl rfl rfl) k2 (oA rfl ?_))))))))
  refine rnf (w_ret ?_)
  cases h
  exact ret_post (.tmp rfl .nil) k2 ⟨rfl, rfl⟩
 refine w_block (wsr (oV (v_fi rfl GMark.f2 fd118_2 rfl (z := a_m.mode)) (oV (v_loadI ty3 rfl) (oV (v_eql rfl rfl) (oA rfl (rnf (w_condM h rfl (fun _ h => ?_) (fun _ h => ?_))))))))
 ·exact w_region (oA rfl (rl_nil (fin_block (hJ3 _ () h _ (join_imp 5 rfl rfl (mod_cons (j := 7) rfl hI mod_nil) k2)))))
 refine wsr (oV (v_fi rfl GMark.f2 fd118_2 rfl (z := a_m.mode)) (oV (v_loadI ty3 rfl) (oV (v_eql rfl rfl) (oM rfl (rl_j (jb 26) je .nil h 7 rfl (fun q4 g4 h => ?_) (fun J5 h hJ5 => ?_))))))
 ·refine oA rfl (rnf (w_condM h rfl (fun _ h => ?_) (fun _ h => ?_)))
  ·exact w_region (oM rfl (oM rfl (cal_inv h fun y7 hy7 h => oT (t_callE (table_maker_soft_w hy7) hT (s2 rfl rfl) k2 (oA rfl (rl_nil (fin_block (hJ3 _ () h _ (join_imp 14 rfl rfl (mod_cons (j := 7) rfl hI mod_nil) k2)))))))))
  exact w_skip (fin_block (hJ3 _ () h _ (join_imp 10 rfl rfl (mod_cons (j := 7) rfl hI mod_nil) k2)))
 refine rl_condM (j := 19) h rfl (fun g6 h => ?_) (fun g6 h => ?_)
 ·exact oK 19 rfl rfl rfl g6 (v_move rfl) (oK 19 rfl rfl rfl g6 (v_nilCheck rfl) (oK 19 rfl rfl rfl g6 (v_fa rfl pt98_0_1 fd98_1) (oK 19 rfl rfl rfl g6 (v_fa rfl GMod.f1 fd26_1) (op_take rfl rfl (dj := 19) rfl g6 (t_loadC (R := isv (a_x.m.tagging)) ty3 rfl .here hI (oK 19 rfl rfl rfl g6 (v_neq rfl rfl) (oV (v_pick_t rfl g6 rfl) (hJ5 _ () h _ (join_imp 7 rfl rfl (mod_cons (j := 26) rfl hI mod_nil) k2)))))))))
 exact oP 19 rfl rfl g6 (oP 19 rfl rfl g6 (oP 19 rfl rfl g6 (oP 19 rfl rfl g6 (oP 19 rfl rfl g6 (oP 19 rfl rfl g6 (oV (v_pick_f rfl g6 rfl) (hJ5 _ () h _ (join_imp 7 rfl rfl (mod_cons (j := 26) rfl hI mod_nil) k2))))))))

end Go.Proofs.YtiibmpdjkdjbiaaGreatDoor


namespace Go.Proofs.YtiibmpdjkdjbiaaGreatDoor
open Go.Sy
set_option maxRecDepth 4000
def table_maker_field_C (f' : GTmk → GNode → Int → Int → Bool → Option (GFld × Int × GTmk)) : Prop :=
 ∀ {a_x : GTmk} {a_n_ : GNode} {a_k : Int} {a_depth : Int} {a_auto : Bool} {b_a_x : Nat} {v_a_x1 : Vt} {r : GFld × Int × GTmk}, f' a_x a_n_ a_k a_depth a_auto = some r → Ctr Tryz.prog 112 [ptrv b_a_x (Fld.id ((Wr Vh) × GMod)), isv (a_n_), isv (a_k), isv (a_depth), isv (a_auto)] [boxE b_a_x (((Wr.mk (Vh.mk v_a_x1 a_x.types.l.length)), a_x.m) : ((Wr Vh) × GMod)), vecE v_a_x1 (a_x.types.l : List GTyp)] (fun R H => ∃ u1 : Vt, R = oneOf [isv (r.1), isv (r.2.1)] ∧ H = [boxE b_a_x (((Wr.mk (Vh.mk u1 r.2.2.types.l.length)), r.2.2.m)), vecE u1 (r.2.2.types.l)])
def table_maker_node_C (f' : GTmk → Int → Int → Option (Int × Int × GTmk)) : Prop :=
 ∀ {a_x : GTmk} {a_k : Int} {a_depth : Int} {b_a_x : Nat} {v_a_x1 : Vt} {r : Int × Int × GTmk}, f' a_x a_k a_depth = some r → Ctr Tryz.prog 36 [ptrv b_a_x (Fld.id ((Wr Vh) × GMod)), isv (a_k), isv (a_depth)] [boxE b_a_x (((Wr.mk (Vh.mk v_a_x1 a_x.types.l.length)), a_x.m) : ((Wr Vh) × GMod)), vecE v_a_x1 (a_x.types.l : List GTyp)] (fun R H => ∃ u1 : Vt, R = oneOf [isv (r.1), isv (r.2.1)] ∧ H = [boxE b_a_x (((Wr.mk (Vh.mk u1 r.2.2.types.l.length)), r.2.2.m)), vecE u1 (r.2.2.types.l)])
def table_maker_made_C (f' : GTmk → GNode → Int → Option (Int × Int × GTmk)) : Prop :=
 ∀ {a_x : GTmk} {a_n_ : GNode} {a_depth : Int} {b_a_x : Nat} {v_a_x1 : Vt} {r : Int × Int × GTmk}, f' a_x a_n_ a_depth = some r → Ctr Tryz.prog 61 [ptrv b_a_x (Fld.id ((Wr Vh) × GMod)), isv (a_n_), isv (a_depth)] [boxE b_a_x (((Wr.mk (Vh.mk v_a_x1 a_x.types.l.length)), a_x.m) : ((Wr Vh) × GMod)), vecE v_a_x1 (a_x.types.l : List GTyp)] (fun R H => ∃ u1 : Vt, R = oneOf [isv (r.1), isv (r.2.1)] ∧ H = [boxE b_a_x (((Wr.mk (Vh.mk u1 r.2.2.types.l.length)), r.2.2.m)), vecE u1 (r.2.2.types.l)])
def table_maker_fields_C (f' : GTmk → Int → GNode → Int → Option (Int × GTmk)) : Prop :=
 ∀ {a_x : GTmk} {a_at_ : Int} {a_n_ : GNode} {a_depth : Int} {b_a_x : Nat} {v_a_x1 : Vt} {r : Int × GTmk}, f' a_x a_at_ a_n_ a_depth = some r → Ctr Tryz.prog 92 [ptrv b_a_x (Fld.id ((Wr Vh) × GMod)), isv (a_at_), isv (a_n_), isv (a_depth)] [boxE b_a_x (((Wr.mk (Vh.mk v_a_x1 a_x.types.l.length)), a_x.m) : ((Wr Vh) × GMod)), vecE v_a_x1 (a_x.types.l : List GTyp)] (fun R H => ∃ u1 : Vt, R = oneOf [isv (r.1)] ∧ H = [boxE b_a_x (((Wr.mk (Vh.mk u1 r.2.types.l.length)), r.2.m)), vecE u1 (r.2.types.l)])
theorem table_maker_field_w0 {table_maker_field' : GTmk → GNode → Int → Int → Bool → Option (GFld × Int × GTmk)} {table_maker_node' : GTmk → Int → Int → Option (Int × Int × GTmk)} {table_maker_made' : GTmk → GNode → Int → Option (Int × Int × GTmk)} {table_maker_fields' : GTmk → Int → GNode → Int → Option (Int × GTmk)} (h_table_maker_field : table_maker_field_C table_maker_field') (h_table_maker_node : table_maker_node_C table_maker_node') (h_table_maker_made : table_maker_made_C table_maker_made') (h_table_maker_fields : table_maker_fields_C table_maker_fields') : ∀ {a_x : GTmk} {a_n_ : GNode} {a_k : Int} {a_depth : Int} {a_auto : Bool} {b_a_x : Nat} {v_a_x1 : Vt} {r : GFld × Int × GTmk}, table_maker_field_F table_maker_field' table_maker_node' table_maker_made' table_maker_fields' a_x a_n_ a_k a_depth a_auto = some r → Ctr Tryz.prog 112 [ptrv b_a_x (Fld.id ((Wr Vh) × GMod)), isv (a_n_), isv (a_k), isv (a_depth), isv (a_auto)] [boxE b_a_x (((Wr.mk (Vh.mk v_a_x1 a_x.types.l.length)), a_x.m) : ((Wr Vh) × GMod)), vecE v_a_x1 (a_x.types.l : List GTyp)] (fun R H => ∃ u1 : Vt, R = oneOf [isv (r.1), isv (r.2.1)] ∧ H = [boxE b_a_x (((Wr.mk (Vh.mk u1 r.2.2.types.l.length)), r.2.2.m)), vecE u1 (r.2.2.types.l)]) := by
 intro a_x a_n_ a_k a_depth a_auto b_a_x v_a_x1 r h
 unfold table_maker_field_F at h
 refine spec_introD Tryz.func112 rfl fun w0 S0 hT => wsr (oT (t_boxIC (y := a_n_) rfl hI (oT (t_alloc _ ze51 fun b2 => oA rfl (rnf (wsr (oV (v_fi rfl GNode.f5 fd120_5 rfl (z := a_n_.fields)) (oV (v_loadI ty41 rfl) ?_))))))))
 refine oM rfl (cal_inv h fun y3 hy3 h => oV (v_ix (l := a_n_.fields) rfl hI rfl sl41 hy3) (oV (v_loadI ty51 rfl) (oT (t_alloc _ ze51 fun b4 => oT (t_storeC (y' := (y3 : GFld)) ty51 rfl rfl hI .here rfl (rnf (w_seq (wsr ?_))))))))
 refine oV (v_fi rfl GNode.f5 fd120_5 rfl (z := a_n_.fields)) (oV (v_loadI ty41 rfl) (oM rfl (asd_inv h fun q5 h => oV (v_sl (l := a_n_.fields) rfl hI sl41 (.inl ⟨rfl, rfl⟩) (.inr ⟨_, rfl, rfl⟩) q5.1 q5.2.1 q5.2.2) (oV (v_makeFunc (s1 rfl)) (cal_inv h fun y6 hy6 h => oT (t_callE (slices_ContainsFunc_Lapi_Field_api_Field_1_w hy6) hT (s2 rfl rfl) k1 (rnf ?_)))))))
 refine w_condM h rfl (fun _ h => ?_) (fun _ h => ?_)
 ·refine wsr (oT (t_loadC (R := isv (y6.2)) ty51 rfl .here hI (oT (t_storeC (y' := (y6.2 : GFld)) ty51 rfl rfl hI tH rfl (oA rfl (rnf (w_ret (ret_nxt (ret_post (.cell rfl .here ty51 (.tmp rfl .nil)) (.cons tI (.cons tI .nil)) ?_)))))))))
  cases h
  exact ⟨v_a_x1, rfl, rfl⟩
 refine wkf (wsr (oA rfl (rnf (w_seq (wsr (oM rfl (oV (v_fa rfl GFld.f1 fd51_1) (oT (t_loadC (R := isv (y6.2.ty)) ty3 rfl .here hI ?_)))))))))
 refine oM rfl (ck_inv h fun q7 h => oV (v_add rfl rfl q7) (cal_inv h fun y8 hy8 h => oT (t_call (h_table_maker_node hy8) hT (s3 rfl rfl rfl) (.cons tI (.cons tI .nil)) (fun R H' hR => ?_))))
 obtain ⟨v9, rfl, rfl⟩ := hR
 refine oM rfl (oV (v_extract rfl rfl) (oV (v_extract rfl rfl) (oV (v_fa rfl GFld.f1 fd51_1) (oT (t_storeC (y' := ({ y6.2 with ty := y8.1 } : GFld)) ty3 rfl rfl hI tI rfl (oA rfl (rnf (wsr (oM rfl ?_)))))))))
 refine oV (v_neq rfl rfl) (rnf (w_condM h rfl (fun _ h => ?_) (fun _ h => ?_)))
 ·refine wsr (oT (t_loadC (R := isv ({ y6.2 with ty := y8.1 })) ty51 rfl .here hI (oM rfl (oT (t_storeC (y' := ({ y6.2 with ty := y8.1 } : GFld)) ty51 rfl rfl hI (.there tI) rfl (oA rfl (rnf (w_ret (ret_nxt (ret_post (.cell rfl .here ty51 (.tmp rfl .nil)) (.cons tI (.cons tI .nil)) ?_))))))))))
  cases h
  exact ⟨v9, rfl, rfl⟩
 refine wkf (w_seq (wsr (oV (v_fa rfl GFld.f3 fd51_3) (oT (t_loadC (R := isv (y6.2.has)) ty4 rfl .here hI (rnf (w_J (ι := GFld × GTmk) (γ := Unit) (fun q10 g10 => []) (fun q10 g10 => [boxE b4 (q10.1 : GFld), boxE b_a_x (((Wr.mk (Vh.mk v9 q10.2.types.l.length)), q10.2.m) : ((Wr Vh) × GMod)), vecE v9 (q10.2.types.l : List GTyp)]) k3 h (fun q10 g10 h => ?_) (fun J11 h hJ11 => ?_))))))))
 ·refine w_seq (wsr (oM rfl (rnf (w_J (ι := Int × GTmk) (γ := Unit) (fun q14 g14 => [(12, ptrv b4 (Fld.id GFld)), (13, isv (q14.1))]) (fun q14 g14 => [boxE b_a_x (((Wr.mk (Vh.mk v9 q14.2.types.l.length)), q14.2.m) : ((Wr Vh) × GMod)), vecE v9 (q14.2.types.l : List GTyp)]) (.cons tH (.cons tH .nil)) h (fun q14 g14 h => ?_) (fun J15 h hJ15 => ?_)))))
  ·refine wsr (oT (t_loadC (R := isv (q10.1)) ty51 rfl tI hI (oM rfl (oT (t_storeC (y' := (q10.1 : GFld)) ty51 rfl rfl hI (.there tI) rfl (oA rfl (rnf (w_ret (ret_post (.cell rfl .here ty51 (.tmp rfl .nil)) (.cons tH (.cons tH .nil)) ?_)))))))))
   cases h
   exact ⟨v9, rfl, rfl⟩
  refine w_condM h rfl (fun _ h => ?_) (fun _ h => ?_)
  ·refine w_pinN 12 .here rfl (fun o16 hn17 => w_regionD (.v 0 (.v 1 (.v 2 (.v 3 (.v 4 (.v 5 (.v 6 (.t 7 (.t 8 (.v 9 .nil)))))))))) moOrd (by kernel_rfl) ?_)
   refine rvm rfl rfl (rd_v rfl (v_fp rfl GFld.f1 fd51_1) (rd_v rfl (v_lpC (R := isv (q10.1.ty)) ty3 rfl (List.Mem.head _) hI) (rvm rfl rfl (rvm rfl rfl (rd_v rfl (v_fp rfl GFld.f1 fd51_1) (rd_v rfl (v_lpC (R := isv (q10.1.ty)) ty3 rfl (List.Mem.head _) hI) (cal_inv h fun y18 hy18 h => rd_t rfl rfl (t_callE (table_maker_soft_w hy18) hT (s2 rfl rfl) k2 ?_))))))))
   exact cal_inv h fun y19 hy19 h => rd_t rfl rfl (t_callE (table_maker_wrap_w hy19) hT (s4 rfl rfl rfl rfl) k2 (rd_v rfl (v_assign rfl) (rd_nil (fin_unpinN 12 hn17 rfl (hJ15 _ () h _ (join_imp 12 rfl rfl (mod_cons (j := 12) rfl hI (mod_cons (j := 13) rfl hI mod_nil)) (.cons tH (.cons tH k2))))))))
  exact w_skip (hJ15 _ () h _ (join_imp 0 rfl rfl (mod_cons (j := 12) rfl hI (mod_cons (j := 13) rfl hI mod_nil)) (.cons tH (.cons tH k2))))
 refine w_condM h rfl (fun _ h => ?_) (fun _ h => ?_)
 ·refine wsr (oM rfl (oV (v_fa rfl GFld.f1 fd51_1) (oT (t_loadC (R := isv (y8.1)) ty3 rfl .here hI (oV (v_fa rfl GFld.f4 fd51_4) (oT (t_loadC (R := isv (y6.2.dflt)) ty49 rfl .here hI (cal_inv h fun y12 hy12 h => oT (t_callE (table_maker_standard_w hy12) hT (s3 rfl rfl rfl) (.cons tH (.cons tH .nil)) (oM rfl ?_))))))))))
  refine oV (v_extract rfl rfl) (oV (v_extract rfl rfl) (oT (t_alloc _ ze49 fun b13 => oT (t_storeC (y' := (y12.1 : Val)) ty49 rfl rfl hI .here rfl (rl_upd (upd_imm 14 .here rfl) (oA rfl (rnf (w_seq (wsr ?_)))))))))
  refine oM rfl (oV (v_not rfl) (rnf (w_condM h rfl (fun _ h => ?_) (fun _ h => ?_))))
  ·refine wsr (oT (t_loadC (R := isv ({ y6.2 with ty := y8.1 })) ty51 rfl tI hI (oT (t_storeC (y' := ({ y6.2 with ty := y8.1 } : GFld)) ty51 rfl rfl hI (.there tI) rfl (oA rfl (rnf (w_ret (ret_nxt (ret_nxt (ret_post (.cell rfl .here ty51 (.tmp rfl .nil)) (.cons tH (.cons tH .nil)) ?_))))))))))
   cases h
   exact ⟨v9, rfl, rfl⟩
  exact wkf (w_region (oV (v_loadI ty49 rfl) (oV (v_fa rfl GFld.f4 fd51_4) (oT (t_storeC (y' := ({ { y6.2 with ty := y8.1 } with dflt := y12.1 } : GFld)) ty49 rfl rfl hI tI rfl (rl_nil (hJ11 _ () h _ (join_imp 16 rfl rfl mod_nil k4))))))))
 exact w_skip (hJ11 _ () h _ (join_imp 0 rfl rfl mod_nil k4))

theorem table_maker_node_w0 {table_maker_field' : GTmk → GNode → Int → Int → Bool → Option (GFld × Int × GTmk)} {table_maker_node' : GTmk → Int → Int → Option (Int × Int × GTmk)} {table_maker_made' : GTmk → GNode → Int → Option (Int × Int × GTmk)} {table_maker_fields' : GTmk → Int → GNode → Int → Option (Int × GTmk)} (h_table_maker_field : table_maker_field_C table_maker_field') (h_table_maker_node : table_maker_node_C table_maker_node') (h_table_maker_made : table_maker_made_C table_maker_made') (h_table_maker_fields : table_maker_fields_C table_maker_fields') : ∀ {a_x : GTmk} {a_k : Int} {a_depth : Int} {b_a_x : Nat} {v_a_x1 : Vt} {r : Int × Int × GTmk}, table_maker_node_F table_maker_field' table_maker_node' table_maker_made' table_maker_fields' a_x a_k a_depth = some r → Ctr Tryz.prog 36 [ptrv b_a_x (Fld.id ((Wr Vh) × GMod)), isv (a_k), isv (a_depth)] [boxE b_a_x (((Wr.mk (Vh.mk v_a_x1 a_x.types.l.length)), a_x.m) : ((Wr Vh) × GMod)), vecE v_a_x1 (a_x.types.l : List GTyp)] (fun R H => ∃ u1 : Vt, R = oneOf [isv (r.1), isv (r.2.1)] ∧ H = [boxE b_a_x (((Wr.mk (Vh.mk u1 r.2.2.types.l.length)), r.2.2.m)), vecE u1 (r.2.2.types.l)]) := by
 intro a_x a_k a_depth b_a_x v_a_x1 r h
 unfold table_maker_node_F at h
 refine spec_introD Tryz.func36 rfl fun w0 S0 hT => wsr (oA rfl (oA rfl (rnf (w_seq (wsr (oM rfl (oV (v_lss rfl rfl) ?_)))))))
 refine oM rfl (rl_j (jb 23) je .nil h 9 rfl (fun q2 g2 h => ?_) (fun J3 h hJ3 => ?_))
 ·refine rnf (w_condM h rfl (fun _ h => ?_) (fun _ h => ?_))
  ·refine wsr (oA rfl (oA rfl (rnf (w_ret (ret_nxt (ret_post (.tmp rfl (.tmp rfl .nil)) k2 ?_))))))
   cases h
   exact ⟨v_a_x1, rfl, rfl⟩
  refine wkf (wsr (oM rfl (oV (v_nilCheck rfl) (oV (v_fa rfl pt98_0_1 fd98_1) (oV (v_fa rfl GMod.f4 fd26_4) (oT (t_loadC (R := isv (a_x.m.nodes)) ty24 rfl .here hI (oM rfl (cal_inv h fun y5 hy5 h => ?_)))))))))
  refine oV (v_ix (l := a_x.m.nodes) rfl hI rfl sl24 hy5) (oV (v_loadI ty120 rfl) (oT (t_alloc _ ze120 fun b6 => oT (t_storeC (y' := (y5 : GNode)) ty120 rfl rfl hI .here rfl (rl_upd (upd_imm 8 .here rfl) (rnf (wsr (oA rfl (rnf ?_)))))))))
  refine wsr (oA rfl (rnf (w_seq (wsr (oV (v_fi rfl GNode.f0 fd120_0 rfl (z := y5.kind)) (oV (v_loadI ty3 rfl) (oV (v_eql rfl rfl) (rnf ?_))))))))
  refine w_J (ι := Int × Int × GTmk) (γ := Vt) (fun q7 g7 => [(0, ptrv b_a_x (Fld.id ((Wr Vh) × GMod))), (9, isv (q7.1)), (10, isv (q7.2.1))]) (fun q7 g7 => [boxE b_a_x (((Wr.mk (Vh.mk g7 q7.2.2.types.l.length)), q7.2.2.m) : ((Wr Vh) × GMod)), vecE g7 (q7.2.2.types.l : List GTyp)]) k2 h (fun q7 g7 h => ?_) (fun J8 h hJ8 => ?_)
  ·refine w_seq (wsr (oM rfl (oV (v_neq rfl rfl) (rnf (w_condM h rfl (fun _ h => ?_) (fun _ h => ?_))))))
   ·refine wsr (oM rfl (oA rfl (oA rfl (rnf (w_ret (ret_nxt (ret_post (.tmp rfl (.tmp rfl .nil)) k2 ?_)))))))
    cases h
    exact ⟨g7, rfl, rfl⟩
   refine wkf (wsr (oM rfl (oM rfl (oM rfl (oV (v_fi rfl GNode.f2 fd120_2 rfl (z := y5.mark)) (oV (v_loadI ty118 rfl) (cal_inv h fun y20 hy20 h => oT (t_callE (table_maker_marked_w hy20) hT (s3 rfl rfl rfl) k2 ?_))))))))
   refine oA rfl (oA rfl (rnf (w_ret (ret_post (.tmp rfl (.tmp rfl .nil)) k2 ?_))))
   cases h
   exact ⟨g7, rfl, rfl⟩
  refine w_condM h rfl (fun _ h => ?_) (fun _ h => ?_)
  ·refine w_seq (w_pinN 0 .here rfl (fun o9 hn10 => w_regionD (.v 0 (.v 1 (.v 2 (.v 3 (.v 4 (.v 5 (.t 6 (.v 7 .nil)))))))) moOrd (by kernel_rfl) ?_))
   refine rvm rfl rfl (rd_v rfl (v_nilCheckP rfl) (rd_v rfl (v_fp rfl pt98_0_1 fd98_1) (rd_v rfl (v_lpC (R := isv (a_x.m)) ty26 rfl (List.Mem.head _) hI) (rd_v rfl (v_fi rfl GNode.f1 fd120_1 rfl (z := y5.name)) (rd_v rfl (v_loadI ty9 rfl) (cal_inv h fun y11 hy11 h => rd_t rfl rfl (t_callE (refs_Find_w hy11) hT (s2 rfl rfl) .nil (rd_v rfl (v_assign rfl) ?_))))))))
   refine rd_nil (fin_unpinN 0 hn10 rfl (fin_nxt (w_seq (wsr (oM rfl (oV (v_lss rfl rfl) (oM rfl (rl_j (jb 53) je .nil h 9 rfl (fun q12 g12 h => ?_) (fun J13 h hJ13 => ?_)))))))))
   ·refine rnf (w_condM h rfl (fun _ h => ?_) (fun _ h => ?_))
    ·refine wsr (oA rfl (oA rfl (rnf (w_ret (ret_nxt (ret_nxt (ret_post (.tmp rfl (.tmp rfl .nil)) k2 ?_)))))))
     cases h
     exact ⟨v_a_x1, rfl, rfl⟩
    refine wkf (w_region (oM rfl (oM rfl (oV (v_nilCheck rfl) (oV (v_fa rfl pt98_0_1 fd98_1) (oV (v_fa rfl GMod.f3 fd26_3) (oT (t_loadC (R := isv (a_x.m.types)) ty23 rfl .here hI (oM rfl ?_)))))))))
    refine cal_inv h fun y15 hy15 h => oV (v_ix (l := a_x.m.types) rfl hI rfl sl23 hy15) (oV (v_loadI ty3 rfl) (oM rfl (cal_inv h fun y16 hy16 h => oT (t_call (h_table_maker_node hy16) hT (s3 rfl rfl rfl) k2 (fun R H' hR => ?_)))))
    obtain ⟨v17, rfl, rfl⟩ := hR
    exact oM rfl (oV (v_extract rfl rfl) (oV (v_extract rfl rfl) (oA rfl (oA rfl (rl_nil (hJ8 _ (v17) h _ (join_imp 30 rfl rfl (mod_cons (j := 0) rfl hI (mod_cons (j := 9) rfl hI (mod_cons (j := 10) rfl hI mod_nil))) k2)))))))
   refine rl_condM (j := 44) h rfl (fun g14 h => ?_) (fun g14 h => ?_)
   ·refine oP 44 rfl rfl g14 (oP 44 rfl rfl g14 (oP 44 rfl rfl g14 (oP 44 rfl rfl g14 (oP 44 rfl rfl g14 (oP 44 rfl rfl g14 (oP 44 rfl rfl g14 (oP 44 rfl rfl g14 (oV (v_pick_t rfl g14 rfl) ?_))))))))
    exact hJ13 _ () h _ (join_imp 9 rfl rfl (mod_cons (j := 53) rfl hI mod_nil) k2)
   refine oK 44 rfl rfl rfl g14 (v_move rfl) (oK 44 rfl rfl rfl g14 (v_move rfl) (oK 44 rfl rfl rfl g14 (v_nilCheck rfl) (oK 44 rfl rfl rfl g14 (v_fa rfl pt98_0_1 fd98_1) (oK 44 rfl rfl rfl g14 (v_fa rfl GMod.f3 fd26_3) (op_take rfl rfl (dj := 44) rfl g14 (t_loadC (R := isv (a_x.m.types)) ty23 rfl .here hI (oK 44 rfl rfl rfl g14 (v_ln (l := a_x.m.types) rfl hI sl23) (oK 44 rfl rfl rfl g14 (v_geq rfl rfl) (oV (v_pick_f rfl g14 rfl) ?_)))))))))
   exact hJ13 _ () h _ (join_imp 9 rfl rfl (mod_cons (j := 53) rfl hI mod_nil) k2)
  refine w_region (oM rfl (oV (v_loadI ty120 rfl) (oM rfl (cal_inv h fun y18 hy18 h => oT (t_call (h_table_maker_made hy18) hT (s3 rfl rfl rfl) k2 (fun R H' hR => ?_))))))
  obtain ⟨v19, rfl, rfl⟩ := hR
  exact oM rfl (oV (v_extract rfl rfl) (oV (v_extract rfl rfl) (oA rfl (oA rfl (rl_nil (hJ8 _ (v19) h _ (join_imp 9 rfl rfl (mod_cons (j := 0) rfl hI (mod_cons (j := 9) rfl hI (mod_cons (j := 10) rfl hI mod_nil))) k2)))))))
 refine rl_condM (j := 14) h rfl (fun g4 h => ?_) (fun g4 h => ?_)
 ·refine oP 14 rfl rfl g4 (oP 14 rfl rfl g4 (oP 14 rfl rfl g4 (oP 14 rfl rfl g4 (oP 14 rfl rfl g4 (oP 14 rfl rfl g4 (oP 14 rfl rfl g4 (oP 14 rfl rfl g4 (oV (v_pick_t rfl g4 rfl) ?_))))))))
  exact hJ3 _ () h _ (join_imp 9 rfl rfl (mod_cons (j := 23) rfl hI mod_nil) k2)
 refine oK 14 rfl rfl rfl g4 (v_move rfl) (oK 14 rfl rfl rfl g4 (v_move rfl) (oK 14 rfl rfl rfl g4 (v_nilCheck rfl) (oK 14 rfl rfl rfl g4 (v_fa rfl pt98_0_1 fd98_1) (oK 14 rfl rfl rfl g4 (v_fa rfl GMod.f4 fd26_4) (op_take rfl rfl (dj := 14) rfl g4 (t_loadC (R := isv (a_x.m.nodes)) ty24 rfl .here hI (oK 14 rfl rfl rfl g4 (v_ln (l := a_x.m.nodes) rfl hI sl24) (oK 14 rfl rfl rfl g4 (v_geq rfl rfl) (oV (v_pick_f rfl g4 rfl) ?_)))))))))
 exact hJ3 _ () h _ (join_imp 9 rfl rfl (mod_cons (j := 23) rfl hI mod_nil) k2)

theorem table_maker_made_w0 {table_maker_field' : GTmk → GNode → Int → Int → Bool → Option (GFld × Int × GTmk)} {table_maker_node' : GTmk → Int → Int → Option (Int × Int × GTmk)} {table_maker_made' : GTmk → GNode → Int → Option (Int × Int × GTmk)} {table_maker_fields' : GTmk → Int → GNode → Int → Option (Int × GTmk)} (h_table_maker_field : table_maker_field_C table_maker_field') (h_table_maker_node : table_maker_node_C table_maker_node') (h_table_maker_made : table_maker_made_C table_maker_made') (h_table_maker_fields : table_maker_fields_C table_maker_fields') : ∀ {a_x : GTmk} {a_n_ : GNode} {a_depth : Int} {b_a_x : Nat} {v_a_x1 : Vt} {r : Int × Int × GTmk}, table_maker_made_F table_maker_field' table_maker_node' table_maker_made' table_maker_fields' a_x a_n_ a_depth = some r → Ctr Tryz.prog 61 [ptrv b_a_x (Fld.id ((Wr Vh) × GMod)), isv (a_n_), isv (a_depth)] [boxE b_a_x (((Wr.mk (Vh.mk v_a_x1 a_x.types.l.length)), a_x.m) : ((Wr Vh) × GMod)), vecE v_a_x1 (a_x.types.l : List GTyp)] (fun R H => ∃ u1 : Vt, R = oneOf [isv (r.1), isv (r.2.1)] ∧ H = [boxE b_a_x (((Wr.mk (Vh.mk u1 r.2.2.types.l.length)), r.2.2.m)), vecE u1 (r.2.2.types.l)]) := by
 intro a_x a_n_ a_depth b_a_x v_a_x1 r h
 unfold table_maker_made_F at h
 refine spec_introD Tryz.func61 rfl fun w0 S0 hT => wsr (oT (t_boxIC (y := a_n_) rfl hI (oA rfl (oA rfl (rnf (w_seq (wsr (oM rfl ?_))))))))
 refine oV (v_gtr rfl rfl) (oM rfl (rl_j (jb 22) je .nil h 8 rfl (fun q2 g2 h => ?_) (fun J3 h hJ3 => ?_)))
 ·refine rnf (w_condM h rfl (fun _ h => ?_) (fun _ h => ?_))
  ·refine wsr (oA rfl (oA rfl (rnf (w_ret (ret_nxt (ret_post (.tmp rfl (.tmp rfl .nil)) k2 ?_))))))
   cases h
   exact ⟨v_a_x1, rfl, rfl⟩
  refine wkf (wsr (oV (v_fi rfl GNode.f0 fd120_0 rfl (z := a_n_.kind)) (oV (v_loadI ty3 rfl) (oV (v_fi rfl GNode.f3 fd120_3 rfl (z := a_n_.con)) (oV (v_loadI ty39 rfl) (oV (v_fi rfl GNode.f6 fd120_6 rfl (z := a_n_.root)) (oV (v_loadI ty3 rfl) (oV (v_fi rfl GNode.f7 fd120_7 rfl (z := a_n_.more)) ?_))))))))
  refine oV (v_loadI ty4 rfl) (oV (v_build (z := (GTyp.mk a_n_.kind ([] : (List Tag)) a_n_.con ([] : (List GItem)) ([] : (List GFld)) a_n_.root a_n_.more (0 : Int))) rfl bu43 ze43 (.cons GTyp.f0 fd43_0 rfl hI (.cons GTyp.f2 fd43_2 rfl hI (.cons GTyp.f5 fd43_5 rfl hI (.cons GTyp.f6 fd43_6 rfl hI .nil))))) (oT (t_alloc _ ze43 fun b5 => oT (t_storeC (y' := ((GTyp.mk a_n_.kind ([] : (List Tag)) a_n_.con ([] : (List GItem)) ([] : (List GFld)) a_n_.root a_n_.more (0 : Int)) : GTyp)) ty43 rfl rfl hI .here rfl (rnf (w_seq (wsr (oV (v_fi rfl GNode.f0 fd120_0 rfl (z := a_n_.kind)) (oV (v_loadI ty3 rfl) ?_)))))))))
  refine oV (v_neq rfl rfl) (rnf (w_J (ι := GTyp) (γ := Unit) (fun q6 g6 => []) (fun q6 g6 => [boxE b5 (q6 : GTyp)]) k1 h (fun q6 g6 h => ?_) (fun J7 h hJ7 => ?_)))
  ·refine w_seq (w_pinN 8 .here rfl (fun o10 hn11 => w_regionD (.v 0 (.v 1 (.v 2 (.v 3 (.t 4 (.v 5 .nil)))))) moOrd (by kernel_rfl) ?_))
   refine rvm rfl rfl (rd_v rfl (v_nilCheck rfl) (rd_v rfl (v_fa rfl pt98_0_0 fd98_0) (rd_v rfl (v_lpC (R := isv (q6)) ty43 rfl (List.Mem.head _) hI) (cal_inv h fun y12 hy12 h => rd_t rfl rfl (t_call (table_types_add_w hy12) hT (s2 rfl rfl) k2 (fun R H' hR => ?_))))))
   obtain ⟨v13, rfl, rfl⟩ := hR
   refine rd_v rfl (v_assign rfl) (rd_nil (fin_unpinN 8 hn11 rfl (fin_nxt (wsr (oA rfl (rnf (w_seq (wsr ?_))))))))
   refine oV (v_fi rfl GNode.f0 fd120_0 rfl (z := a_n_.kind)) (oV (v_loadI ty3 rfl) (rnf (w_J (ι := Int × GTmk) (γ := Vt) (fun q14 g14 => [(0, anyv), (10, isv (q14.1))]) (fun q14 g14 => [boxE b_a_x (((Wr.mk (Vh.mk g14 q14.2.types.l.length)), q14.2.m) : ((Wr Vh) × GMod)), vecE g14 (q14.2.types.l : List GTyp)]) (.cons tH (.cons tH .nil)) h (fun q14 g14 h => ?_) (fun J15 h hJ15 => ?_))))
   ·refine wsr (oM rfl (oM rfl (oA rfl (oA rfl (rnf (w_ret (ret_post (.tmp rfl (.tmp rfl .nil)) k2 ?_)))))))
    cases h
    exact ⟨g14, rfl, rfl⟩
   refine w_block (wsr (oV (v_eql rfl rfl) (oA rfl (rnf (w_condM h rfl (fun _ h => ?_) (fun _ h => ?_))))))
   ·exact w_region (oV (v_fi rfl GNode.f3 fd120_3 rfl (z := a_n_.con)) (oV (v_loadI ty39 rfl) (cal_inv h fun y16 hy16 h => oT (t_callE (bounds_Check_w hy16) hT (s2 rfl rfl) .nil (oA rfl (rl_nil (fin_block (hJ15 _ (v13) h _ (join_imp 6 rfl rfl (mod_cons (j := 0) rfl (fun _ _ _ => trivial) (mod_cons (j := 10) rfl hI mod_nil)) (.cons tH (.cons tH k1)))))))))))
   refine w_seq (wsr (oV (v_eql rfl rfl) (oA rfl (rnf (w_J (jb 52) je .nil h (fun q17 g17 h => ?_) (fun J18 h hJ18 => ?_))))))
   ·refine w_condM h rfl (fun _ h => ?_) (fun _ h => ?_)
    ·exact w_region (oV (v_fi rfl GNode.f3 fd120_3 rfl (z := a_n_.con)) (oV (v_loadI ty39 rfl) (cal_inv h fun y19 hy19 h => oT (t_callE (bounds_Check_w hy19) hT (s2 rfl rfl) .nil (oA rfl (rl_nil (fin_block (hJ15 _ (v13) h _ (join_imp 9 rfl rfl (mod_cons (j := 0) rfl (fun _ _ _ => trivial) (mod_cons (j := 10) rfl hI mod_nil)) (.cons tH (.cons tH k1)))))))))))
    refine wsr (oV (v_eql rfl rfl) (oA rfl (rnf (w_condM h rfl (fun _ h => ?_) (fun _ h => ?_)))))
    ·refine wsr (oV (v_fi rfl GNode.f3 fd120_3 rfl (z := a_n_.con)) (oV (v_loadI ty39 rfl) (cal_inv h fun y20 hy20 h => oT (t_callE (bounds_Check_w hy20) hT (s2 rfl rfl) .nil (oA rfl (rnf (wsr (oM rfl ?_))))))))
     refine oV (v_eql rfl rfl) (rnf (w_condM h rfl (fun _ h => ?_) (fun _ h => ?_)))
     ·refine wsr (oA rfl (rnf (wsr (oM rfl (oV (v_fi rfl GNode.f8 fd120_8 rfl (z := a_n_.of)) (oV (v_loadI ty3 rfl) (oM rfl (ck_inv h fun q21 h => ?_))))))))
      refine oV (v_add rfl rfl q21) (cal_inv h fun y22 hy22 h => oT (t_call (h_table_maker_node hy22) hT (s3 rfl rfl rfl) (.cons tH (.cons tH .nil)) (fun R H' hR => ?_)))
      obtain ⟨v23, rfl, rfl⟩ := hR
      refine oM rfl (oV (v_extract rfl rfl) (oV (v_extract rfl rfl) (oA rfl (oA rfl (rnf (w_region (oM rfl (oV (v_nilCheck rfl) ?_))))))))
      refine oV (v_fa rfl pt98_0_0 fd98_0) (oV (v_fa rfl pt96_0_0 fd96_0) (oT (t_loadC (R := vecv v23 (y22.2.2.types.l.length)) ty31 rfl .here isvV1 (oM rfl (oM rfl (asd_inv h fun q24 h => oV (v_vidx (α := GTyp) sl31 rfl rfl q24.1 q24.2) (oV (v_fv rfl GTyp.f7 fd43_7) (cal_inv h fun y25 hy25 h => ?_))))))))
      refine oT (t_vstore ty3 rfl rfl tH hy25 (rl_upd (upd_box (y := (((Wr.mk (Vh.mk v23 (y22.2.2.types.l.set y12.1.toNat ({ y25 with of := y22.1 })).length)), y22.2.2.m) : ((Wr Vh) × GMod))) tH (fun S => (Cv.pair (Cv.wr (Cv.vhe (by first | rfl | simp))) Cv.id))) ?_))
      exact rl_nil (fin_block (hJ15 _ (v23) h _ (join_imp 34 rfl rfl (mod_cons (j := 0) rfl (fun _ _ _ => trivial) (mod_cons (j := 10) rfl hI mod_nil)) k3)))
     exact w_skip (fin_block (hJ15 _ (v13) h _ (join_imp 13 rfl rfl (mod_cons (j := 0) rfl (fun _ _ _ => trivial) (mod_cons (j := 10) rfl hI mod_nil)) (.cons tH (.cons tH k1)))))
    refine wsr (oV (v_eql rfl rfl) (oA rfl (rnf (w_condM h rfl (fun _ h => ?_) (fun _ h => ?_)))))
    ·refine w_pinN 0 tH rfl (fun o26 hn27 => w_regionD (.v 0 (.v 1 (.v 2 (.v 3 (.v 4 (.v 5 (.v 6 (.t 7 (.v 8 (.v 9 (.v 10 (.v 11 (.v 12 (.t 13 (.v 14 .nil))))))))))))))) moOrd (by kernel_rfl) ?_)
     refine rvm rfl rfl (rd_v rfl (v_nilCheckP rfl) (rd_v rfl (v_fp rfl pt98_0_0 fd98_0) (rd_v rfl (v_fp rfl pt96_0_0 fd96_0) (rd_v rfl (v_lpC (R := vecv v13 (y12.2.types.l.length)) ty31 rfl (List.Mem.head _) isvV1) (rvm rfl rfl (rd_v rfl (v_loadI ty120 rfl) (cal_inv h fun y28 hy28 h => rd_t rfl rfl (t_callE (table_items_w hy28) hT (s1 rfl) .nil ?_))))))))
     refine rvm rfl rfl (rd_v rfl (v_extract rfl rfl) (rd_v rfl (v_extract rfl rfl) (asd_inv h fun q29 h => rd_v rfl (v_vidx (α := GTyp) sl31 rfl rfl q29.1 q29.2) (rd_v rfl (v_fv rfl GTyp.f3 fd43_3) (cal_inv h fun y30 hy30 h => rd_t rfl rfl (t_vstore ty40 rfl rfl tH hy30 (rd_v rfl (v_assign rfl) ?_)))))))
     refine rd_nil (fin_unpinN 0 hn27 rfl (fin_upd (upd_box (y := (((Wr.mk (Vh.mk v13 (y12.2.types.l.set y12.1.toNat ({ y30 with items := y28.1 })).length)), y12.2.m) : ((Wr Vh) × GMod))) .here (fun S => (Cv.pair (Cv.wr (Cv.vhe (by first | rfl | simp))) Cv.id))) ?_))
     exact fin_block (hJ15 _ (v13) h _ (join_imp 25 rfl rfl (mod_cons (j := 0) rfl (fun _ _ _ => trivial) (mod_cons (j := 10) rfl hI mod_nil)) k3))
    refine w_seq (wsr (oV (v_eql rfl rfl) (oA rfl (rnf (w_J (jb 98) je .nil h (fun q31 g31 h => ?_) (fun J32 h hJ32 => ?_))))))
    ·refine w_condM h rfl (fun _ h => ?_) (fun _ h => ?_)
     ·refine w_region (oM rfl (oM rfl (oV (v_loadI ty120 rfl) (oM rfl (cal_inv h fun y33 hy33 h => oT (t_call (h_table_maker_fields hy33) hT (s4 rfl rfl rfl rfl) (.cons tH (.cons tH .nil)) (fun R H' hR => ?_)))))))
      obtain ⟨v34, rfl, rfl⟩ := hR
      exact oA rfl (rl_nil (fin_block (hJ15 _ (v34) h _ (join_imp 18 rfl rfl (mod_cons (j := 0) rfl (fun _ _ _ => trivial) (mod_cons (j := 10) rfl hI mod_nil)) k3))))
     exact w_skip (fin_block (hJ15 _ (v13) h _ (join_imp 12 rfl rfl (mod_cons (j := 0) rfl (fun _ _ _ => trivial) (mod_cons (j := 10) rfl hI mod_nil)) (.cons tH (.cons tH k1)))))
    refine w_condM h rfl (fun _ h => ?_) (fun _ h => ?_)
    ·exact w_skip (hJ32 _ () h _ (join_imp 0 rfl rfl (mod_cons (j := 98) rfl hI mod_nil) k3))
    refine wsr (oV (v_eql rfl rfl) (oA rfl (rnf (w_condM h rfl (fun _ h => ?_) (fun _ h => ?_)))))
    ·exact w_skip (hJ32 _ () h _ (join_imp 2 rfl rfl (mod_cons (j := 98) rfl hI mod_nil) k3))
    exact w_region (oV (v_eql rfl rfl) (oA rfl (rl_nil (hJ32 _ () h _ (join_imp 4 rfl rfl (mod_cons (j := 98) rfl hI mod_nil) k3)))))
   refine w_condM h rfl (fun _ h => ?_) (fun _ h => ?_)
   ·exact w_skip (hJ18 _ () h _ (join_imp 0 rfl rfl (mod_cons (j := 52) rfl hI mod_nil) k3))
   exact w_region (oV (v_eql rfl rfl) (oA rfl (rl_nil (hJ18 _ () h _ (join_imp 2 rfl rfl (mod_cons (j := 52) rfl hI mod_nil) k3)))))
  refine w_condM h rfl (fun _ h => ?_) (fun _ h => ?_)
  ·refine w_region (oV (v_fi rfl GNode.f0 fd120_0 rfl (z := a_n_.kind)) (oV (v_loadI ty3 rfl) (cal_inv h fun y8 hy8 h => oT (t_callE (tags_Universal_w hy8) hT (s1 rfl) .nil (oT (t_buildSlice (l := ([y8] : (List Tag))) el37 (.cons rfl hI .nil) rfl rfl (oV (v_fa rfl GTyp.f1 fd43_1) (oT (t_storeC (y' := ((GTyp.mk a_n_.kind ([y8] : (List Tag)) a_n_.con ([] : (List GItem)) ([] : (List GFld)) a_n_.root a_n_.more (0 : Int)) : GTyp)) ty37 rfl rfl appv_isv .here rfl (rl_nil ?_))))))))))
   exact hJ7 _ () h _ (join_imp 5 rfl rfl mod_nil k3)
  exact w_skip (hJ7 _ () h _ (join_imp 0 rfl rfl mod_nil k3))
 refine rl_condM (j := 14) h rfl (fun g4 h => ?_) (fun g4 h => ?_)
 ·exact oP 14 rfl rfl g4 (oP 14 rfl rfl g4 (oP 14 rfl rfl g4 (oP 14 rfl rfl g4 (oP 14 rfl rfl g4 (oP 14 rfl rfl g4 (oP 14 rfl rfl g4 (oV (v_pick_t rfl g4 rfl) (hJ3 _ () h _ (join_imp 8 rfl rfl (mod_cons (j := 22) rfl hI mod_nil) k2)))))))))
 exact oK 14 rfl rfl rfl g4 (v_move rfl) (oK 14 rfl rfl rfl g4 (v_nilCheck rfl) (oK 14 rfl rfl rfl g4 (v_fa rfl pt98_0_0 fd98_0) (oK 14 rfl rfl rfl g4 (v_fa rfl pt96_0_0 fd96_0) (op_take rfl rfl (dj := 14) rfl g4 (t_loadC (R := vecv v_a_x1 (a_x.types.l.length)) ty31 rfl .here isvV1 (oK 14 rfl rfl rfl g4 (v_vlen sl31 rfl) (oK 14 rfl rfl rfl g4 (v_geq rfl rfl) (oV (v_pick_f rfl g4 rfl) (hJ3 _ () h _ (join_imp 8 rfl rfl (mod_cons (j := 22) rfl hI mod_nil) k2))))))))))

theorem table_maker_fields_w0 {table_maker_field' : GTmk → GNode → Int → Int → Bool → Option (GFld × Int × GTmk)} {table_maker_node' : GTmk → Int → Int → Option (Int × Int × GTmk)} {table_maker_made' : GTmk → GNode → Int → Option (Int × Int × GTmk)} {table_maker_fields' : GTmk → Int → GNode → Int → Option (Int × GTmk)} (h_table_maker_field : table_maker_field_C table_maker_field') (h_table_maker_node : table_maker_node_C table_maker_node') (h_table_maker_made : table_maker_made_C table_maker_made') (h_table_maker_fields : table_maker_fields_C table_maker_fields') : ∀ {a_x : GTmk} {a_at_ : Int} {a_n_ : GNode} {a_depth : Int} {b_a_x : Nat} {v_a_x1 : Vt} {r : Int × GTmk}, table_maker_fields_F table_maker_field' table_maker_node' table_maker_made' table_maker_fields' a_x a_at_ a_n_ a_depth = some r → Ctr Tryz.prog 92 [ptrv b_a_x (Fld.id ((Wr Vh) × GMod)), isv (a_at_), isv (a_n_), isv (a_depth)] [boxE b_a_x (((Wr.mk (Vh.mk v_a_x1 a_x.types.l.length)), a_x.m) : ((Wr Vh) × GMod)), vecE v_a_x1 (a_x.types.l : List GTyp)] (fun R H => ∃ u1 : Vt, R = oneOf [isv (r.1)] ∧ H = [boxE b_a_x (((Wr.mk (Vh.mk u1 r.2.types.l.length)), r.2.m)), vecE u1 (r.2.types.l)]) := by
 intro a_x a_at_ a_n_ a_depth b_a_x v_a_x1 r h
 unfold table_maker_fields_F at h
 refine spec_introD Tryz.func92 rfl fun w0 S0 hT => wsr (oT (t_boxIC (y := a_n_) rfl hI (oA rfl (rnf (w_seq (wsr (oV (v_fi rfl GNode.f0 fd120_0 rfl (z := a_n_.kind)) (oV (v_loadI ty3 rfl) ?_))))))))
 refine oV (v_eql rfl rfl) (oM rfl (rl_j (jb 22) je .nil h 5 rfl (fun q2 g2 h => ?_) (fun J3 h hJ3 => ?_)))
 ·refine oM rfl (rl_j (jb 27) je .nil h 4 rfl (fun q5 g5 h => ?_) (fun J6 h hJ6 => ?_))
  ·refine rnf (w_condM h rfl (fun _ h => ?_) (fun _ h => ?_))
   ·refine wsr (oA rfl (rnf (w_ret (ret_nxt (ret_post (.tmp rfl .nil) k2 ?_)))))
    cases h
    exact ⟨v_a_x1, rfl, rfl⟩
   refine wkf (wsr (oM rfl (oV (v_loadI ty120 rfl) (cal_inv h fun y8 hy8 h => oT (t_callE (table_maker_automatic_w hy8) hT (s2 rfl rfl) k2 (oA rfl (rnf (wsr ?_))))))))
   refine oA rfl (rnf (w_seq (wsr (oV (v_fi rfl GNode.f5 fd120_5 rfl (z := a_n_.fields)) (oV (v_loadI ty41 rfl) (oV (v_ln (l := a_n_.fields) rfl hI sl41) (oM rfl (rnf ?_))))))))
   refine w_block (w_upd (upd_tok) (w_lp (ι := (List GFld) × Int × GTmk) (γ := Tok × Vt) (fun q9 g9 => [(10, appv g9.1 (q9.1)), (34, isv (q9.2.1))]) (fun q9 g9 => [tokE g9.1, boxE b_a_x (((Wr.mk (Vh.mk g9.2 q9.2.2.types.l.length)), q9.2.2.m) : ((Wr Vh) × GMod)), vecE g9.2 (q9.2.2.types.l : List GTyp)]) h (none, v_a_x1) (mod_cons (j := 10) rfl nilv_appv (mod_cons (j := 34) rfl hI mod_nil)) k3 (fun L10 q9 g9 Q36 h hL10 eL10 rL10 => wsr (oV (v_lss rfl rfl) (rnf (w_seq (w_condM h rfl (fun _ h => ?_) (fun _ h => ?_))))))))
   ·refine wkf (w_seq (w_block (wsr (oM rfl (oA rfl (rnf (wsr (oM rfl ?_))))))))
    refine oV (v_loadI ty120 rfl) (oM rfl (oM rfl (oM rfl (cal_inv h fun y23 hy23 h => oT (t_call (h_table_maker_field hy23) hT (.same rfl (s4 rfl rfl rfl rfl)) (.cons tH (.cons tH .nil)) (fun R H' hR => ?_))))))
    obtain ⟨v24, rfl, rfl⟩ := hR
    refine oM rfl (oV (v_extract rfl rfl) (oV (v_extract rfl rfl) (oT (t_alloc _ ze51 fun b25 => oT (t_storeC (y' := (y23.1 : GFld)) ty51 rfl rfl hI .here rfl (rl_upd (upd_imm 12 .here rfl) (oA rfl (rnf (w_seq ?_)))))))))
    refine wsr (oM rfl (oV (v_neq rfl rfl) (rnf (w_condM h rfl (fun _ h => ?_) (fun _ h => ?_)))))
    ·refine wsr (oM rfl (oA rfl (rnf (w_ret (ret_nxt (ret_block (ret_nxt (rL10 _ ?_))))))))
     refine ret_block (ret_nxt (ret_post (.tmp rfl .nil) k2 ?_))
     cases h
     exact ⟨v24, rfl, rfl⟩
    refine wkf (w_region (oM rfl (oV (v_loadI ty51 rfl) (oT (t_buildSlice (l := ([y23.1] : (List GFld))) el41 (.cons rfl hI .nil) rfl rfl (asr_inv h fun q28 h => oT (t_appC (l := q9.1) (m := ([y23.1] : (List GFld))) ap41_41 rfl hI rfl appv_isv tI q28 fun t27 => oA rfl (rl_nil ?_))))))))
    exact fin_block (fin_nxt (w_region (ck_inv h fun q29 h => oV (v_add rfl rfl q29) (oM rfl (rl_nil (hL10 _ (t27, v24) h _ (join_imp 26 rfl rfl (mod_cons (j := 10) rfl hI (mod_cons (j := 34) rfl hI mod_nil)) k3)))))))
   refine w_exit (exi_nxt (eL10 _ _ (exi_block (fin_nxt (wsr (oM rfl (oV (v_nilCheck rfl) (oV (v_fa rfl pt98_0_0 fd98_0) ?_))))))))
   refine oV (v_fa rfl pt96_0_0 fd96_0) (oT (t_loadC (R := vecv g9.2 (q9.2.2.types.l.length)) ty31 rfl tH isvV1 (oM rfl (oM rfl (asd_inv h fun q30 h => oV (v_vidx (α := GTyp) sl31 rfl rfl q30.1 q30.2) (oV (v_fv rfl GTyp.f4 fd43_4) (cal_inv h fun y31 hy31 h => rl_upd (upd_slot 60 rfl (appv_isv)) ?_)))))))
   refine oT (t_vstore ty41 rfl rfl tI hy31 (rl_upd (upd_box (y := (((Wr.mk (Vh.mk g9.2 (q9.2.2.types.l.set a_at_.toNat ({ y31 with fields := q9.1 })).length)), q9.2.2.m) : ((Wr Vh) × GMod))) tI (fun S => (Cv.pair (Cv.wr (Cv.vhe (by first | rfl | simp))) Cv.id))) ?_))
   refine rnf (w_seq (w_seq (w_regionD (.v 0 (.v 1 (.v 2 (.v 3 (.v 4 (.v 5 (.v 6 (.v 8 (.t 7 (.v 9 (.t 10 (.t 11 (.v 12 .nil))))))))))))) moOrd (by kernel_rfl) ?_)))
   refine rvm rfl rfl (rd_v rfl (v_nilCheck rfl) (rd_v rfl (v_fa rfl pt98_0_0 fd98_0) (rvm rfl rfl (rd_v rfl (v_nilCheck rfl) (rd_v rfl (v_fa rfl pt98_0_0 fd98_0) (rd_v rfl (v_fa rfl pt96_0_0 fd96_0) (rvm rfl rfl (rd_t rfl rfl (t_loadC (R := vecv g9.2 ((q9.2.2.types.l.set a_at_.toNat ({ y31 with fields := q9.1 })).length)) ty31 rfl .here isvV1 ?_)))))))))
   refine asd_inv h fun q32 h => rd_v rfl (v_vidx (α := GTyp) sl31 rfl rfl q32.1 q32.2) (cal_inv h fun y33 hy33 h => rd_t rfl rfl (t_vload ty43 rfl tH hy33 ?_))
   refine cal_inv h fun y34 hy34 h => rd_t rfl rfl (t_callE (table_types_apart_w hy34) hT (s2 rfl rfl) k2 (rd_v rfl (v_not rfl) (rd_nil (fin_nxt (w_condM h rfl (fun _ h => ?_) (fun _ h => ?_))))))
   ·refine wsr (oA rfl (rnf (w_ret (ret_nxt (ret_post (.tmp rfl .nil) k2 ?_)))))
    cases h
    exact ⟨g9.2, rfl, rfl⟩
   refine wkf (wsr (oA rfl (rnf (w_ret (ret_post (.tmp rfl .nil) k2 ?_)))))
   cases h
   exact ⟨g9.2, rfl, rfl⟩
  refine rl_condM (j := 23) h rfl (fun g7 h => ?_) (fun g7 h => ?_)
  ·exact oK 23 rfl rfl rfl g7 (v_fi rfl GNode.f7 fd120_7 rfl (z := a_n_.more)) (oK 23 rfl rfl rfl g7 (v_loadI ty4 rfl) (oK 23 rfl rfl rfl g7 (v_not rfl) (oV (v_pick_t rfl g7 rfl) (hJ6 _ () h _ (join_imp 4 rfl rfl (mod_cons (j := 27) rfl hI mod_nil) k2)))))
  exact oP 23 rfl rfl g7 (oP 23 rfl rfl g7 (oP 23 rfl rfl g7 (oV (v_pick_f rfl g7 rfl) (hJ6 _ () h _ (join_imp 4 rfl rfl (mod_cons (j := 27) rfl hI mod_nil) k2)))))
 refine rl_condM (j := 17) h rfl (fun g4 h => ?_) (fun g4 h => ?_)
 ·exact oK 17 rfl rfl rfl g4 (v_fi rfl GNode.f5 fd120_5 rfl (z := a_n_.fields)) (oK 17 rfl rfl rfl g4 (v_loadI ty41 rfl) (oK 17 rfl rfl rfl g4 (v_ln (l := a_n_.fields) rfl hI sl41) (oK 17 rfl rfl rfl g4 (v_eql rfl rfl) (oV (v_pick_t rfl g4 rfl) (hJ3 _ () h _ (join_imp 5 rfl rfl (mod_cons (j := 22) rfl hI mod_nil) k2))))))
 exact oP 17 rfl rfl g4 (oP 17 rfl rfl g4 (oP 17 rfl rfl g4 (oP 17 rfl rfl g4 (oV (v_pick_f rfl g4 rfl) (hJ3 _ () h _ (join_imp 5 rfl rfl (mod_cons (j := 22) rfl hI mod_nil) k2))))))

theorem table_maker_field_grp_w : ∀ n, table_maker_field_C (table_maker_field n) ∧ table_maker_node_C (table_maker_node n) ∧ table_maker_made_C (table_maker_made n) ∧ table_maker_fields_C (table_maker_fields n)
 | 0 => ⟨fun h => (by cases h), fun h => (by cases h), fun h => (by cases h), fun h => (by cases h)⟩
 | n + 1 => by
  obtain ⟨h0, h1, h2, h3⟩ := table_maker_field_grp_w n
  exact ⟨table_maker_field_w0 h0 h1 h2 h3, table_maker_node_w0 h0 h1 h2 h3, table_maker_made_w0 h0 h1 h2 h3, table_maker_fields_w0 h0 h1 h2 h3⟩
theorem table_maker_node_w (n : Nat) : table_maker_node_C (table_maker_node n) := (table_maker_field_grp_w n).2.1
theorem table_Make_w : ∀ {a_m : GMod} {r : GTab × Int × Int}, table_Make a_m = some r → Ctr Tryz.prog 13 [isv (a_m)] [] (fun R H => R = oneOf [isv (r.1), isv (r.2.1), isv (r.2.2)] ∧ H = []) := by
 intro a_m r h
 unfold table_Make at h
 refine spec_introD Tryz.func13 rfl fun w0 S0 hT => wsr (oT (t_boxIC (y := a_m) rfl hI (oT (t_alloc _ ze33 fun b1 => oA rfl (oA rfl (rnf (w_seq (wsr ?_))))))))
 refine oV (v_loadI ty26 rfl) (cal_inv h fun y2 hy2 h => oT (t_callE (refs_Order_w hy2) hT (s1 rfl) .nil (oM rfl (oV (v_extract rfl rfl) (oV (v_extract rfl rfl) (oV (v_extract rfl rfl) (oA rfl (oA rfl ?_))))))))
 refine oA rfl (rnf (wsr (oM rfl (oV (v_neq rfl rfl) (rnf (w_condM h rfl (fun _ h => ?_) (fun _ h => ?_)))))))
 ·refine wsr (oV (v_build (z := (GTab.mk (Str.mk []) ([] : (List Str)) ([] : (List Int)) ([] : (List GTyp)))) rfl bu33 ze33 .nil) (oM rfl (oM rfl (oT (t_storeC (y' := ((GTab.mk (Str.mk []) ([] : (List Str)) ([] : (List Int)) ([] : (List GTyp))) : GTab)) ty33 rfl rfl hI .here rfl (oA rfl (oA rfl (rnf (w_ret ?_)))))))))
  refine ret_nxt ?_
  cases h
  exact ret_post (.cell rfl .here ty33 (.tmp rfl (.tmp rfl .nil))) .nil ⟨rfl, rfl⟩
 refine wkf (w_seq (wsr (oV (v_fi rfl GMod.f3 fd26_3 rfl (z := a_m.types)) (oV (v_loadI ty23 rfl) (oV (v_ln (l := a_m.types) rfl hI sl23) (oV (v_fi rfl GMod.f2 fd26_2 rfl (z := a_m.names)) (oV (v_loadI ty22 rfl) (oV (v_ln (l := a_m.names) rfl hI sl22) ?_))))))))
 refine oV (v_lss rfl rfl) (rnf (w_condM h rfl (fun _ h => ?_) (fun _ h => ?_)))
 ·refine w_seq (w_regionD (.v 0 (.v 1 (.v 2 (.v 3 (.t 4 (.v 5 (.v 6 .nil))))))) moOrd (by kernel_rfl) ?_)
  refine rd_v rfl (v_build (z := (GTab.mk (Str.mk []) ([] : (List Str)) ([] : (List Int)) ([] : (List GTyp)))) rfl bu33 ze33 .nil) (rd_v rfl (v_fi rfl GMod.f3 fd26_3 rfl (z := a_m.types)) (rd_v rfl (v_loadI ty23 rfl) (rd_v rfl (v_ln (l := a_m.types) rfl hI sl23) (rd_t rfl rfl (t_storeC (y' := ((GTab.mk (Str.mk []) ([] : (List Str)) ([] : (List Int)) ([] : (List GTyp))) : GTab)) ty33 rfl rfl hI .here rfl (rd_v rfl (v_assign rfl) (rd_v rfl (v_assign rfl) (rd_nil (fin_nxt ?_)))))))))
  refine w_ret (ret_nxt ?_)
  cases h
  exact ret_post (.cell rfl .here ty33 (.tmp rfl (.tmp rfl .nil))) .nil ⟨rfl, rfl⟩
 refine wkf (wsr (oV (v_loadI ty26 rfl) (oV (v_build (z := (((Wr.mk (Vh.mk none 0)), a_m) : ((Wr Vh) × GMod))) rfl bu98 zt98_4 (.cons pt98_0_1 fd98_1 rfl hI .nil)) (oT (t_boxC (y := (((Wr.mk (Vh.mk none 0)), a_m) : ((Wr Vh) × GMod))) rfl hI fun b3 => rl_upd (upd_vec (α := GTyp)) (oA rfl (rnf (w_seq ?_))))))))
 refine w_J (ι := GTab) (γ := Nat × Tok) (fun q5 g5 => [(9, ptrv g5.1 (Fld.id (Str × (List Str) × (TList Int) × (List GTyp))))]) (fun q5 g5 => [boxE g5.1 ((q5.name, q5.names, (TList.mk g5.2 q5.roots), q5.types) : (Str × (List Str) × (TList Int) × (List GTyp))), tokE g5.2]) .nil h (fun q5 g5 h => ?_) (fun J6 h hJ6 => ?_)
 ·refine w_seq (wsr (oV (v_fi rfl GMod.f2 fd26_2 rfl (z := a_m.names)) (oV (v_loadI ty22 rfl) (oV (v_ln (l := a_m.names) rfl hI sl22) (oM rfl (rnf (w_block (w_lp (ι := Int × GTab × GTmk) (γ := Tok × Vt) (fun q14 g14 => [(47, isv (q14.1))]) (fun q14 g14 => [boxE g5.1 ((q14.2.1.name, q14.2.1.names, (TList.mk g14.1 q14.2.1.roots), q14.2.1.types) : (Str × (List Str) × (TList Int) × (List GTyp))), tokE g14.1, boxE b3 (((Wr.mk (Vh.mk g14.2 q14.2.2.types.l.length)), q14.2.2.m) : ((Wr Vh) × GMod)), vecE g14.2 (q14.2.2.types.l : List GTyp)]) h (g5.2, none) (mod_cons (j := 47) rfl hI mod_nil) (.cons .here (.cons .here (.cons tH k1))) (fun L15 q14 g14 Q30 h hL15 eL15 rL15 => ?_)))))))))
  refine wsr (oV (v_lss rfl rfl) (rnf (w_seq (w_condM h rfl (fun _ h => ?_) (fun _ h => ?_)))))
  ·refine wkf (w_seq (w_block (wsr (oM rfl (oA rfl (rnf (wsr (oM rfl ?_))))))))
   refine oV (v_fi rfl GMod.f3 fd26_3 rfl (z := a_m.types)) (oV (v_loadI ty23 rfl) (oM rfl (cal_inv h fun y23 hy23 h => oV (v_ix (l := a_m.types) rfl hI rfl sl23 hy23) (oV (v_loadI ty3 rfl) (cal_inv h fun y24 hy24 h => oT (t_call (table_maker_node_w fuel hy24) hT (s3 rfl rfl rfl) (.cons tI (.cons tI .nil)) (fun R H' hR => ?_)))))))
   obtain ⟨v25, rfl, rfl⟩ := hR
   refine oM rfl (oV (v_extract rfl rfl) (oV (v_extract rfl rfl) (oA rfl (oA rfl (rnf (w_seq (wsr (oM rfl ?_))))))))
   refine oV (v_neq rfl rfl) (rnf (w_condM h rfl (fun _ h => ?_) (fun _ h => ?_)))
   ·refine wsr (oV (v_build (z := (GTab.mk (Str.mk []) ([] : (List Str)) ([] : (List Int)) ([] : (List GTyp)))) rfl bu33 ze33 .nil) (oM rfl (oM rfl (oT (t_storeC (y' := ((GTab.mk (Str.mk []) ([] : (List Str)) ([] : (List Int)) ([] : (List GTyp))) : GTab)) ty33 rfl rfl hI (.there (.there tI)) rfl (oA rfl (oA rfl (rnf (w_ret ?_)))))))))
    refine ret_nxt (ret_block (ret_nxt (rL15 _ (ret_block (ret_nxt ?_)))))
    cases h
    exact ret_post (.cell rfl .here ty33 (.tmp rfl (.tmp rfl .nil))) .nil ⟨rfl, rfl⟩
   refine wkf (w_region (oV (v_fa rfl pt33_0_2 fd33_2) (oT (t_loadC (R := appv g14.1 (q14.2.1.roots)) ty23 rfl tI isvT1 (oM rfl (oT (t_buildSlice (l := ([y24.1] : (List Int))) el23 (.cons rfl hI .nil) rfl rfl (asr_inv h fun q28 h => oT (t_appC (l := q14.2.1.roots) (m := ([y24.1] : (List Int))) ap23_23 rfl hI rfl appv_isv (.there tI) q28 fun t27 => oV (v_fa rfl pt33_0_2 fd33_2) ?_)))))))))
   refine oT (t_storeC (y' := ((q14.2.1.name, q14.2.1.names, (TList.mk t27 (q14.2.1.roots ++ ([y24.1] : (List Int)))), q14.2.1.types) : (Str × (List Str) × (TList Int) × (List GTyp)))) ty23 rfl rfl isvT2 (.there tI) rfl (rl_nil (fin_block (fin_nxt (w_region (ck_inv h fun q29 h => oV (v_add rfl rfl q29) (oM rfl (rl_nil ?_))))))))
   exact hL15 _ (t27, v25) h _ (join_imp 26 rfl rfl (mod_cons (j := 47) rfl hI mod_nil) (.cons .here k4))
  refine w_exit (exi_nxt (eL15 _ _ (exi_block (fin_nxt (wsr (oM rfl (oV (v_nilCheck rfl) (oV (v_fa rfl pt98_0_0 fd98_0) ?_))))))))
  refine oV (v_fa rfl pt96_0_0 fd96_0) (oT (t_loadC (R := vecv g14.2 (q14.2.2.types.l.length)) ty31 rfl tI isvV1 (oV (v_fa rfl pt33_0_3 fd33_3) (rl_upd (upd_frzF 76 (.there tI) rfl (by first | rfl | simp)) ?_))))
  refine oT (t_storeC (y' := ((q14.2.1.name, q14.2.1.names, (TList.mk g14.1 q14.2.1.roots), q14.2.2.types.l) : (Str × (List Str) × (TList Int) × (List GTyp)))) ty31 rfl rfl hI .here rfl (rnf (wsr (oT (t_loadC (y := ((q14.2.1.name, q14.2.1.names, (TList.mk g14.1 q14.2.1.roots), q14.2.2.types.l) : (Str × (List Str) × (TList Int) × (List GTyp)))) (R := isv (((q14.2.1.name, q14.2.1.names, (TList.mk g14.1 q14.2.1.roots), q14.2.2.types.l)) : ((Str × (List Str) × (TList Int) × (List GTyp))))) ty33 rfl .here (by exact hI) ?_)))))
  refine rl_upd (upd_slot (R' := isv ((GTab.mk q14.2.1.name q14.2.1.names q14.2.1.roots q14.2.2.types.l))) 78 rfl (Cv.isv rfl fun S => (fun cs h => GTab.cv (x := (GTab.mk q14.2.1.name q14.2.1.names q14.2.1.roots q14.2.2.types.l)) cs (((Cv.pair Cv.id (Cv.pair Cv.id (Cv.pair Cv.tl Cv.id))) : Cv S ((q14.2.1.name, q14.2.1.names, (TList.mk g14.1 q14.2.1.roots), q14.2.2.types.l) : (Str × (List Str) × (TList Int) × (List GTyp))) (GTab.to (GTab.mk q14.2.1.name q14.2.1.names q14.2.1.roots q14.2.2.types.l))) cs h)))) (oT (t_storeC (y' := ((GTab.mk q14.2.1.name q14.2.1.names q14.2.1.roots q14.2.2.types.l) : GTab)) ty33 rfl rfl hI (.there tI) rfl (oA rfl (oA rfl (rnf (w_ret ?_))))))
  cases h
  exact ret_post (.cell rfl .here ty33 (.tmp rfl (.tmp rfl .nil))) .nil ⟨rfl, rfl⟩
 refine w_regionD (.v 0 (.v 1 (.v 2 (.v 3 (.alt 4 (.v 5 (.t 6 (.t 7 .nil))) (.t 6 (.t 4 (.v 5 (.t 7 .nil))))))))) moOrd (by kernel_rfl) ?_
 refine rd_v rfl (v_fi rfl GMod.f0 fd26_0 rfl (z := a_m.name)) (rd_v rfl (v_loadI ty9 rfl) (rd_v rfl (v_fi rfl GMod.f2 fd26_2 rfl (z := a_m.names)) (rd_v rfl (v_loadI ty22 rfl) (cal_inv h fun y7 hy7 h => rd_two ?_ ?_))))
 ·exact rd_t rfl rfl (t_callE (slices_Clone_Lstring_string_w hy7) hT (s1 rfl) .nil (rd_v rfl (v_build (z := ((a_m.name, y7, (TList.mk none ([] : (List Int))), ([] : (List GTyp))) : (Str × (List Str) × (TList Int) × (List GTyp)))) rfl bu33 zt33_5 (.cons pt33_0_0 fd33_0 rfl hI (.cons pt33_0_1 fd33_1 rfl hI .nil))) (rd_t rfl rfl (t_alloc _ zt33_5 fun b8 => rd_upd (upd_tok) (rd_upd (upd_tok) (rd_t rfl rfl (t_storeC (y' := ((a_m.name, y7, (TList.mk none ([] : (List Int))), ([] : (List GTyp))) : (Str × (List Str) × (TList Int) × (List GTyp)))) ty33 rfl rfl hI tI rfl (rd_nil (hJ6 _ (b8, none) h _ (join_imp 7 rfl rfl (mod_cons (j := 9) rfl hI mod_nil) (.cons .here (.cons .here (.cons tH (.cons tH (.cons tH .nil)))))))))))))))
 exact rd_t rfl rfl (t_alloc _ zt33_5 fun b11 => rd_upd (upd_tok) (rd_t rfl rfl (t_callE (slices_Clone_Lstring_string_w hy7) hT (s1 rfl) .nil (rd_v rfl (v_build (z := ((a_m.name, y7, (TList.mk none ([] : (List Int))), ([] : (List GTyp))) : (Str × (List Str) × (TList Int) × (List GTyp)))) rfl bu33 zt33_5 (.cons pt33_0_0 fd33_0 rfl hI (.cons pt33_0_1 fd33_1 rfl hI .nil))) (rd_upd (upd_tok) (rd_t rfl rfl (t_storeC (y' := ((a_m.name, y7, (TList.mk none ([] : (List Int))), ([] : (List GTyp))) : (Str × (List Str) × (TList Int) × (List GTyp)))) ty33 rfl rfl hI tI rfl (rd_nil (hJ6 _ (b11, none) h _ (join_imp 7 rfl rfl (mod_cons (j := 9) rfl hI mod_nil) (.cons .here (.cons .here (.cons tH (.cons tH (.cons tH .nil)))))))))))))))

end Go.Proofs.YtiibmpdjkdjbiaaGreatDoor


namespace Go.Proofs.YtiibmpdjkdjbiaaGreatDoor
open Go.Sy
set_option maxRecDepth 4000
theorem table_Find_w : ∀ {a_t : GTab} {a_name : Str} {r : Int}, table_Find a_t a_name = some r → Ctr Tryz.prog 23 [isv (a_t), isv (a_name)] [] (fun R H => R = oneOf [isv (r)] ∧ H = []) := by
 intro a_t a_name r h
 unfold table_Find at h
 refine spec_introD Tryz.func23 rfl fun w0 S0 hT => wsr (oT (t_boxIC (y := a_t) rfl hI (oA rfl (rnf (wsr (oV (v_fi rfl GTab.f1 fd33_1 rfl (z := a_t.names)) (oV (v_loadI ty22 rfl) (oM rfl ?_))))))))
 refine cal_inv h fun y1 hy1 h => oT (t_callE (slices_Index_Lstring_string_w hy1) hT (s2 rfl rfl) .nil (oA rfl (rnf (w_seq (wsr (oM rfl (oV (v_lss rfl rfl) (oM rfl ?_))))))))
 refine rl_j (jb 18) je .nil h 6 rfl (fun q2 g2 h => ?_) (fun J3 h hJ3 => ?_)
 ·refine rnf (w_condM h rfl (fun _ h => ?_) (fun _ h => ?_))
  ·refine wsr (oA rfl (rnf (w_ret (ret_nxt ?_))))
   cases h
   exact ret_post (.tmp rfl .nil) .nil ⟨rfl, rfl⟩
  refine wkf (wsr (oV (v_fi rfl GTab.f2 fd33_2 rfl (z := a_t.roots)) (oV (v_loadI ty23 rfl) (oM rfl (cal_inv h fun y5 hy5 h => oV (v_ix (l := a_t.roots) rfl hI rfl sl23 hy5) (oV (v_loadI ty3 rfl) (oA rfl ?_)))))))
  refine rnf (w_ret ?_)
  cases h
  exact ret_post (.tmp rfl .nil) .nil ⟨rfl, rfl⟩
 refine rl_condM (j := 12) h rfl (fun g4 h => ?_) (fun g4 h => ?_)
 ·exact oP 12 rfl rfl g4 (oP 12 rfl rfl g4 (oP 12 rfl rfl g4 (oP 12 rfl rfl g4 (oP 12 rfl rfl g4 (oV (v_pick_t rfl g4 rfl) (hJ3 _ () h _ (ji 6 18 rfl rfl rfl)))))))
 exact oK 12 rfl rfl rfl g4 (v_move rfl) (oK 12 rfl rfl rfl g4 (v_fi rfl GTab.f2 fd33_2 rfl (z := a_t.roots)) (oK 12 rfl rfl rfl g4 (v_loadI ty23 rfl) (oK 12 rfl rfl rfl g4 (v_ln (l := a_t.roots) rfl hI sl23) (oK 12 rfl rfl rfl g4 (v_geq rfl rfl) (oV (v_pick_f rfl g4 rfl) (hJ3 _ () h _ (ji 6 18 rfl rfl rfl)))))))


theorem law10_awake_w : ∀  {r : Bool}, law10_awake  = some r → Ctr Tryz.prog 12 [] [] (fun R H => R = oneOf [isv (r)] ∧ H = []) := by
 intro  r h
 unfold law10_awake at h
 refine spec_introD Tryz.func12 rfl fun w0 S0 hT => wsr (oA rfl (rnf (wsr (cal_inv h fun y1 hy1 h => oT (t_callE (r05_Parse_w hy1) hT (s1 rfl) .nil (oM rfl (oV (v_extract rfl rfl) ?_)))))))
 refine oV (v_extract rfl rfl) (oV (v_extract rfl rfl) (oT (t_alloc _ ze26 fun b2 => oT (t_storeC (y' := (y1.1 : GMod)) ty26 rfl rfl hI .here rfl (rl_upd (upd_imm 1 .here rfl) (oA rfl (oA rfl (rnf (wsr ?_)))))))))
 refine oV (v_loadI ty26 rfl) (cal_inv h fun y3 hy3 h => oT (t_callE (table_Make_w hy3) hT (s1 rfl) .nil (oM rfl (oV (v_extract rfl rfl) (oV (v_extract rfl rfl) (oV (v_extract rfl rfl) (oT (t_alloc _ ze33 fun b4 => oT (t_storeC (y' := (y3.1 : GTab)) ty33 rfl rfl hI .here rfl ?_)))))))))
 refine rl_upd (upd_imm 4 .here rfl) (oA rfl (oA rfl (rnf (wsr (oM rfl (oV (v_eql rfl rfl) (oM rfl (rl_j (jb 25) je .nil h 5 rfl (fun q5 g5 h => ?_) (fun J6 h hJ6 => ?_)))))))))
 ·refine oM rfl (rl_j (jb 30) je .nil h 4 rfl (fun q8 g8 h => ?_) (fun J9 h hJ9 => ?_))
  ·refine oM rfl (rl_j (jb 39) je .nil h 8 rfl (fun q12 g12 h => ?_) (fun J13 h hJ13 => ?_))
   ·refine oA rfl (rnf (w_ret ?_))
    cases h
    exact ret_post (.tmp rfl .nil) .nil ⟨rfl, rfl⟩
   refine rl_condM (j := 31) h rfl (fun g14 h => ?_) (fun g14 h => ?_)
   ·refine oK 31 rfl rfl rfl g14 (v_fi rfl GTab.f3 fd33_3 rfl (z := y3.1.types)) (oK 31 rfl rfl rfl g14 (v_loadI ty31 rfl) (cal_inv h fun y15 hy15 h => oK 31 rfl rfl rfl g14 (v_ix (l := y3.1.types) rfl hI rfl sl31 hy15) (oK 31 rfl rfl rfl g14 (v_fi rfl GTyp.f1 fd43_1 rfl (z := y15.tags)) (oK 31 rfl rfl rfl g14 (v_loadI ty37 rfl) (oK 31 rfl rfl rfl g14 (v_ln (l := y15.tags) rfl hI sl37) (oK 31 rfl rfl rfl g14 (v_eql rfl rfl) (oV (v_pick_t rfl g14 rfl) ?_)))))))
    exact hJ13 _ () h _ (ji 8 39 rfl rfl rfl)
   exact oP 31 rfl rfl g14 (oP 31 rfl rfl g14 (oP 31 rfl rfl g14 (oP 31 rfl rfl g14 (oP 31 rfl rfl g14 (oP 31 rfl rfl g14 (oP 31 rfl rfl g14 (oV (v_pick_f rfl g14 rfl) (hJ13 _ () h _ (ji 8 39 rfl rfl rfl)))))))))
  refine rl_condM (j := 26) h rfl (fun g10 h => ?_) (fun g10 h => ?_)
  ·exact oK 26 rfl rfl rfl g10 (v_loadI ty33 rfl) (cal_inv h fun y11 hy11 h => op_take rfl rfl (dj := 26) rfl g10 (t_callE (table_Find_w hy11) hT (s2 rfl rfl) .nil (oK 26 rfl rfl rfl g10 (v_eql rfl rfl) (oV (v_pick_t rfl g10 rfl) (hJ9 _ () h _ (ji 4 30 rfl rfl rfl))))))
  exact oP 26 rfl rfl g10 (oP 26 rfl rfl g10 (oP 26 rfl rfl g10 (oV (v_pick_f rfl g10 rfl) (hJ9 _ () h _ (ji 4 30 rfl rfl rfl)))))
 refine rl_condM (j := 20) h rfl (fun g7 h => ?_) (fun g7 h => ?_)
 ·exact oK 20 rfl rfl rfl g7 (v_fi rfl GTab.f3 fd33_3 rfl (z := y3.1.types)) (oK 20 rfl rfl rfl g7 (v_loadI ty31 rfl) (oK 20 rfl rfl rfl g7 (v_ln (l := y3.1.types) rfl hI sl31) (oK 20 rfl rfl rfl g7 (v_eql rfl rfl) (oV (v_pick_t rfl g7 rfl) (hJ6 _ () h _ (ji 5 25 rfl rfl rfl))))))
 exact oP 20 rfl rfl g7 (oP 20 rfl rfl g7 (oP 20 rfl rfl g7 (oP 20 rfl rfl g7 (oV (v_pick_f rfl g7 rfl) (hJ6 _ () h _ (ji 5 25 rfl rfl rfl))))))

end Go.Proofs.YtiibmpdjkdjbiaaGreatDoor


namespace Go.Proofs.YtiibmpdjkdjbiaaGreatDoor
open Go.Sy
set_option maxRecDepth 4000
theorem h_Plain_api_Tag_c1_w : ∀ {a_x : Tag} {a_y : Tag} {r : Bool}, h_Plain_api_Tag_c1 a_x a_y = some r → Ctr Tryz.prog 44 [isv (a_x), isv (a_y)] [] (fun R H => R = oneOf [isv (r)] ∧ H = []) := by
 intro a_x a_y r h
 unfold h_Plain_api_Tag_c1 at h
 refine spec_introD Tryz.func44 rfl fun w0 S0 hT => wsr (oT (t_boxIC (y := a_x) rfl hI (oT (t_boxIC (y := a_y) rfl hI (oA rfl (rnf (wsr (oV (v_loadI ty66 rfl) (oV (v_loadI ty66 rfl) ?_)))))))))
 refine oV (v_eqA eq66 rfl rfl) (oA rfl (rnf (w_ret ?_)))
 cases h
 exact ret_post (.tmp rfl .nil) .nil ⟨rfl, rfl⟩


theorem h_Same_api_Tag_w : ∀ {a_a : (List Tag)} {a_b : (List Tag)} {r : Bool}, h_Same_api_Tag a_a a_b = some r → Ctr Tryz.prog 43 [isv (a_a), isv (a_b), clov 44 []] [] (fun R H => R = oneOf [isv (r)] ∧ H = []) := by
 intro a_a a_b r h
 unfold h_Same_api_Tag at h
 refine spec_introD Tryz.func43 rfl fun w0 S0 hT => wsr (oA rfl (rnf (w_seq (wsr (oM rfl (oV (v_ln (l := a_a) rfl hI sl37) (oM rfl ?_)))))))
 refine oV (v_ln (l := a_b) rfl hI sl37) (oV (v_neq rfl rfl) (rnf (w_condM h rfl (fun _ h => ?_) (fun _ h => ?_))))
 ·refine wsr (oA rfl (rnf (w_ret (ret_nxt ?_))))
  cases h
  exact ret_post (.tmp rfl .nil) .nil ⟨rfl, rfl⟩
 refine wkf (w_seq (wsr (oA rfl (rnf (w_block (w_lp (ι := Int) (γ := Unit) (fun q1 g1 => [(7, isv (q1))]) (fun q1 g1 => []) h () (mod_cons (j := 7) rfl hI mod_nil) .nil (fun L2 q1 g1 Q11 h hL2 eL2 rL2 => w_seq (wsr ?_))))))))
 refine oM rfl (oM rfl (oV (v_ln (l := a_a) rfl hI sl37) (oV (v_lss rfl rfl) (rnf (w_condM h rfl (fun _ h => ?_) (fun _ h => ?_))))))
 ·refine wkf (w_seq (w_block (w_seq (w_regionD (.v 0 (.v 1 (.v 2 (.v 3 (.v 4 (.v 5 (.v 6 (.v 7 (.v 8 (.t 9 (.v 10 .nil))))))))))) moOrd (by kernel_rfl) ?_))))
  refine rvm rfl rfl (rvm rfl rfl (rvm rfl rfl (cal_inv h fun y7 hy7 h => rd_v rfl (v_ix (l := a_a) rfl hI rfl sl37 hy7) (rd_v rfl (v_loadI ty66 rfl) (rvm rfl rfl (rvm rfl rfl (cal_inv h fun y8 hy8 h => ?_)))))))
  refine rd_v rfl (v_ix (l := a_b) rfl hI rfl sl37 hy8) (rd_v rfl (v_loadI ty66 rfl) (cal_inv h fun y9 hy9 h => rd_t rfl rfl (t_callC rfl (s2 rfl rfl) (h_Plain_api_Tag_c1_w hy9) hT .nil (fun R H' hR => ?_))))
  obtain ⟨rfl, rfl⟩ := hR
  refine rd_v rfl (v_not rfl) (rd_nil (fin_nxt (w_condM h rfl (fun _ h => ?_) (fun _ h => ?_))))
  ·refine wsr (oA rfl (rnf (w_ret (ret_block (ret_nxt (rL2 _ (ret_block (ret_nxt ?_))))))))
   cases h
   exact ret_post (.tmp rfl .nil) .nil ⟨rfl, rfl⟩
  refine w_skip (fin_block (fin_nxt (w_region (oM rfl (ck_inv h fun q10 h => oV (v_add rfl rfl q10) (oA rfl (rl_nil ?_)))))))
  exact hL2 _ () h _ (ji 19 7 rfl rfl rfl)
 refine w_exit (exi_nxt (eL2 _ _ (exi_block (fin_nxt (wsr (oA rfl (rnf (w_ret ?_))))))))
 cases h
 exact ret_post (.tmp rfl .nil) .nil ⟨rfl, rfl⟩


theorem h_Plain_api_Tag_w : ∀ {a_a : (List Tag)} {a_b : (List Tag)} {r : Bool}, h_Plain_api_Tag a_a a_b = some r → Ctr Tryz.prog 21 [isv (a_a), isv (a_b)] [] (fun R H => R = oneOf [isv (r)] ∧ H = []) := by
 intro a_a a_b r h
 unfold h_Plain_api_Tag at h
 refine spec_introD Tryz.func21 rfl fun w0 S0 hT => wsr (oA rfl (rnf (wsr (oM rfl (oM rfl (cal_inv h fun y1 hy1 h => oT (t_callE (h_Same_api_Tag_w hy1) hT (s3 rfl rfl rfl) .nil ?_)))))))
 refine oA rfl (rnf (w_ret ?_))
 cases h
 exact ret_post (.tmp rfl .nil) .nil ⟨rfl, rfl⟩


theorem h_Plain_api_Item_c1_w : ∀ {a_x : GItem} {a_y : GItem} {r : Bool}, h_Plain_api_Item_c1 a_x a_y = some r → Ctr Tryz.prog 47 [isv (a_x), isv (a_y)] [] (fun R H => R = oneOf [isv (r)] ∧ H = []) := by
 intro a_x a_y r h
 unfold h_Plain_api_Item_c1 at h
 refine spec_introD Tryz.func47 rfl fun w0 S0 hT => wsr (oT (t_boxIC (y := a_x) rfl hI (oT (t_boxIC (y := a_y) rfl hI (oA rfl (rnf (wsr (oV (v_loadI ty63 rfl) (oV (v_loadI ty63 rfl) ?_)))))))))
 refine oV (v_eqA eq63 rfl rfl) (oA rfl (rnf (w_ret ?_)))
 cases h
 exact ret_post (.tmp rfl .nil) .nil ⟨rfl, rfl⟩


theorem h_Same_api_Item_w : ∀ {a_a : (List GItem)} {a_b : (List GItem)} {r : Bool}, h_Same_api_Item a_a a_b = some r → Ctr Tryz.prog 46 [isv (a_a), isv (a_b), clov 47 []] [] (fun R H => R = oneOf [isv (r)] ∧ H = []) := by
 intro a_a a_b r h
 unfold h_Same_api_Item at h
 refine spec_introD Tryz.func46 rfl fun w0 S0 hT => wsr (oA rfl (rnf (w_seq (wsr (oM rfl (oV (v_ln (l := a_a) rfl hI sl40) (oM rfl ?_)))))))
 refine oV (v_ln (l := a_b) rfl hI sl40) (oV (v_neq rfl rfl) (rnf (w_condM h rfl (fun _ h => ?_) (fun _ h => ?_))))
 ·refine wsr (oA rfl (rnf (w_ret (ret_nxt ?_))))
  cases h
  exact ret_post (.tmp rfl .nil) .nil ⟨rfl, rfl⟩
 refine wkf (w_seq (wsr (oA rfl (rnf (w_block (w_lp (ι := Int) (γ := Unit) (fun q1 g1 => [(7, isv (q1))]) (fun q1 g1 => []) h () (mod_cons (j := 7) rfl hI mod_nil) .nil (fun L2 q1 g1 Q11 h hL2 eL2 rL2 => w_seq (wsr ?_))))))))
 refine oM rfl (oM rfl (oV (v_ln (l := a_a) rfl hI sl40) (oV (v_lss rfl rfl) (rnf (w_condM h rfl (fun _ h => ?_) (fun _ h => ?_))))))
 ·refine wkf (w_seq (w_block (w_seq (w_regionD (.v 0 (.v 1 (.v 2 (.v 3 (.v 4 (.v 5 (.v 6 (.v 7 (.v 8 (.t 9 (.v 10 .nil))))))))))) moOrd (by kernel_rfl) ?_))))
  refine rvm rfl rfl (rvm rfl rfl (rvm rfl rfl (cal_inv h fun y7 hy7 h => rd_v rfl (v_ix (l := a_a) rfl hI rfl sl40 hy7) (rd_v rfl (v_loadI ty63 rfl) (rvm rfl rfl (rvm rfl rfl (cal_inv h fun y8 hy8 h => ?_)))))))
  refine rd_v rfl (v_ix (l := a_b) rfl hI rfl sl40 hy8) (rd_v rfl (v_loadI ty63 rfl) (cal_inv h fun y9 hy9 h => rd_t rfl rfl (t_callC rfl (s2 rfl rfl) (h_Plain_api_Item_c1_w hy9) hT .nil (fun R H' hR => ?_))))
  obtain ⟨rfl, rfl⟩ := hR
  refine rd_v rfl (v_not rfl) (rd_nil (fin_nxt (w_condM h rfl (fun _ h => ?_) (fun _ h => ?_))))
  ·refine wsr (oA rfl (rnf (w_ret (ret_block (ret_nxt (rL2 _ (ret_block (ret_nxt ?_))))))))
   cases h
   exact ret_post (.tmp rfl .nil) .nil ⟨rfl, rfl⟩
  refine w_skip (fin_block (fin_nxt (w_region (oM rfl (ck_inv h fun q10 h => oV (v_add rfl rfl q10) (oA rfl (rl_nil ?_)))))))
  exact hL2 _ () h _ (ji 19 7 rfl rfl rfl)
 refine w_exit (exi_nxt (eL2 _ _ (exi_block (fin_nxt (wsr (oA rfl (rnf (w_ret ?_))))))))
 cases h
 exact ret_post (.tmp rfl .nil) .nil ⟨rfl, rfl⟩


theorem h_Plain_api_Item_w : ∀ {a_a : (List GItem)} {a_b : (List GItem)} {r : Bool}, h_Plain_api_Item a_a a_b = some r → Ctr Tryz.prog 25 [isv (a_a), isv (a_b)] [] (fun R H => R = oneOf [isv (r)] ∧ H = []) := by
 intro a_a a_b r h
 unfold h_Plain_api_Item at h
 refine spec_introD Tryz.func25 rfl fun w0 S0 hT => wsr (oA rfl (rnf (wsr (oM rfl (oM rfl (cal_inv h fun y1 hy1 h => oT (t_callE (h_Same_api_Item_w hy1) hT (s3 rfl rfl rfl) .nil ?_)))))))
 refine oA rfl (rnf (w_ret ?_))
 cases h
 exact ret_post (.tmp rfl .nil) .nil ⟨rfl, rfl⟩

end Go.Proofs.YtiibmpdjkdjbiaaGreatDoor


namespace Go.Proofs.YtiibmpdjkdjbiaaGreatDoor
open Go.Sy
set_option maxRecDepth 4000
end Go.Proofs.YtiibmpdjkdjbiaaGreatDoor

