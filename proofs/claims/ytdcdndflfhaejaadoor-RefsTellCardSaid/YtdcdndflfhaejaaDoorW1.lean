/- Walks, printed by mill.py. -/
import Derived.Test.YtdcdndflfhaejaaDoorW0
namespace Go.Proofs.YtdcdndflfhaejaaDoor
open Go.Sy
set_option maxRecDepth 4000
theorem r04_one_w : ∀ {a_s : Str} {a_i : Int} {r : GTok × Int}, r04_one a_s a_i = some r → Ctr Tryd.prog 39 [isv (a_s), isv (a_i)] [] (fun R H => R = oneOf [isv (r.1), isv (r.2)] ∧ H = []) := by
  intro a_s a_i r h
  unfold r04_one at h
  refine spec_intro Tryd.func39 rfl (by decide +kernel) (by rfl) fun w0 S0 hT => ?_
  refine w_seq ?_
  refine w_region ?_
  refine op_cons rfl (t_alloc _ ze53 fun b1 => ?_)
  refine op_cons rfl (OpV.t (v_assign rfl) ?_)
  refine rl_nil ?_
  refine fin_nxt ?_
  refine w_seq ?_
  refine w_region ?_
  refine op_cons rfl (OpV.t (v_move rfl) ?_)
  refine op_cons rfl (OpV.t (v_build (z := (GTok.mk (0 : Int) (Str.mk []) a_i)) rfl bu53 ze53 (.cons GTok.f2 fd53_2 rfl (fun _ _ h => h) .nil)) ?_)
  refine op_cons rfl (t_alloc _ ze53 fun b2 => ?_)
  refine op_cons rfl (t_storeC (y' := ((GTok.mk (0 : Int) (Str.mk []) a_i) : GTok)) ty53 rfl rfl (fun _ _ h => h) .here rfl ?_)
  refine rl_nil ?_
  refine fin_nxt ?_
  refine w_seq ?_
  refine w_region ?_
  refine op_cons rfl (OpV.t (v_move rfl) ?_)
  refine op_cons rfl (OpV.t (v_move rfl) ?_)
  refine cal_inv h fun y3 hy3 h => ?_
  refine op_cons rfl (OpV.t (v_idxS y3 st9 rfl rfl hy3) ?_)
  refine op_cons rfl (OpV.t (v_assign rfl) ?_)
  refine rl_nil ?_
  refine fin_nxt ?_
  refine w_seq ?_
  refine w_region ?_
  refine op_cons rfl (OpV.t (v_assign rfl) ?_)
  refine rl_nil ?_
  refine fin_nxt ?_
  refine w_seq ?_
  refine w_J (ι := Int × GTok) (γ := Unit) (fun q4 g4 => [(8, isv (q4.1))]) (fun q4 g4 => [boxE b2 (q4.2 : GTok)]) (.cons .here .nil) h (fun q4 g4 h => ?_) (fun J5 h hJ5 => ?_)
  · skip
    refine w_seq ?_
    refine w_region ?_
    refine op_cons rfl (t_loadC (R := isv (q4.2)) ty53 rfl .here (fun _ _ h => h) ?_)
    refine op_cons rfl (OpV.t (v_move rfl) ?_)
    refine op_cons rfl (t_storeC (y' := (q4.2 : GTok)) ty53 rfl rfl (fun _ _ h => h) (.there .here) rfl ?_)
    refine op_cons rfl (OpV.t (v_assign rfl) ?_)
    refine rl_nil ?_
    refine fin_nxt ?_
    refine w_ret ?_
    refine ret_post (.cell rfl .here ty53 (.tmp rfl .nil)) .nil ?_
    obtain rfl := Option.some.inj h
    exact ⟨rfl, rfl⟩
  · skip
    refine w_block ?_
    refine w_seq ?_
    refine w_region ?_
    refine op_cons rfl (OpV.t (v_move rfl) ?_)
    refine cal_inv h fun y6 hy6 h => ?_
    refine op_cons rfl (t_call (r04_letter_w hy6) hT (.same rfl .nil) .nil (fun R H' hR => ?_))
    obtain ⟨rfl, rfl⟩ := hR
    refine op_cons rfl (OpV.t (v_assign rfl) ?_)
    refine rl_nil ?_
    refine fin_nxt ?_
    refine w_condM h rfl (fun _ h => ?_) (fun _ h => ?_)
    · skip
      refine w_seq ?_
      refine w_region ?_
      refine op_cons rfl (OpV.t (v_move rfl) ?_)
      refine op_cons rfl (OpV.t (v_move rfl) ?_)
      refine cal_inv h fun y7 hy7 h => ?_
      refine op_cons rfl (t_call (r04_name_w hy7) hT (.same rfl (.same rfl .nil)) .nil (fun R H' hR => ?_))
      obtain ⟨rfl, rfl⟩ := hR
      refine op_cons rfl (OpV.t (v_assign rfl) ?_)
      refine rl_nil ?_
      refine fin_nxt ?_
      refine w_seq ?_
      refine w_seq ?_
      refine w_region ?_
      refine op_cons rfl (OpV.t (v_move rfl) ?_)
      refine op_cons rfl (OpV.t (v_lss rfl rfl) ?_)
      refine rl_nil ?_
      refine fin_nxt ?_
      refine w_condM h rfl (fun _ h => ?_) (fun _ h => ?_)
      · skip
        refine w_seq ?_
        refine w_region ?_
        refine op_cons rfl (t_loadC (R := isv ((GTok.mk (0 : Int) (Str.mk []) a_i))) ty53 rfl .here (fun _ _ h => h) ?_)
        refine op_cons rfl (t_storeC (y' := ((GTok.mk (0 : Int) (Str.mk []) a_i) : GTok)) ty53 rfl rfl (fun _ _ h => h) (.there .here) rfl ?_)
        refine op_cons rfl (OpV.t (v_assign rfl) ?_)
        refine rl_nil ?_
        refine fin_nxt ?_
        refine w_ret ?_
        refine ret_nxt ?_
        refine ret_block ?_
        refine ret_nxt ?_
        refine ret_post (.cell rfl .here ty53 (.tmp rfl .nil)) .nil ?_
        obtain rfl := Option.some.inj h
        exact ⟨rfl, rfl⟩
      · skip
        refine w_skip ?_
        refine fin_nxt ?_
        refine w_seq ?_
        refine w_regionD (.v 0 (.v 1 (.v 2 (.v 3 (.v 4 (.t 5 (.v 6 (.t 7 .nil)))))))) moOrd (by kernel_rfl) ?_
        refine rd_v rfl (v_move rfl) ?_
        refine rd_v rfl (v_move rfl) ?_
        refine rd_v rfl (v_move rfl) ?_
        refine asd_inv h fun q8 h => ?_
        refine rd_v rfl (v_slS st9 rfl (.inr ⟨_, rfl, rfl⟩) (.inr ⟨_, rfl, rfl⟩) q8.1 q8.2.1 q8.2.2) ?_
        refine rd_v rfl (v_fa rfl GTok.f0 fd53_0) ?_
        refine rd_t rfl rfl (t_storeC (y' := ((GTok.mk (2 : Int) (Str.mk []) a_i) : GTok)) ty3 rfl rfl (fun _ _ h => h) .here rfl ?_)
        refine rd_v rfl (v_fa rfl GTok.f1 fd53_1) ?_
        refine rd_t rfl rfl (t_storeC (y' := ((GTok.mk (2 : Int) (Str.mk ((a_s.b.take (y7).toNat).drop (a_i).toNat)) a_i) : GTok)) ty9 rfl rfl (fun _ _ h => h) .here rfl ?_)
        refine rd_nil ?_
        refine fin_nxt ?_
        refine w_seq ?_
        refine w_seq ?_
        refine w_region ?_
        refine op_cons rfl (OpV.t (v_move rfl) ?_)
        refine op_cons rfl (OpV.t (v_leq8 rfl rfl) ?_)
        refine rl_nil ?_
        refine fin_nxt ?_
        refine w_J (ι := GTok) (γ := Unit) (fun q9 g9 => []) (fun q9 g9 => [boxE b2 (q9 : GTok)]) (.cons .here .nil) h (fun q9 g9 h => ?_) (fun J10 h hJ10 => ?_)
        · skip
          refine w_seq ?_
          refine w_region ?_
          refine op_cons rfl (OpV.t (v_fa rfl GTok.f1 fd53_1) ?_)
          refine op_cons rfl (t_loadC (R := isv (q9.text)) ty9 rfl .here (fun _ _ h => h) ?_)
          refine cal_inv h fun y11 hy11 h => ?_
          refine op_cons rfl (t_call (r04_Word_w hy11) hT (.same rfl .nil) .nil (fun R H' hR => ?_))
          obtain ⟨rfl, rfl⟩ := hR
          refine rl_nil ?_
          refine fin_nxt ?_
          refine w_condM h rfl (fun _ h => ?_) (fun _ h => ?_)
          · skip
            refine w_region ?_
            refine op_cons rfl (OpV.t (v_fa rfl GTok.f0 fd53_0) ?_)
            refine op_cons rfl (t_storeC (y' := ({ q9 with kind := (5 : Int) } : GTok)) ty3 rfl rfl (fun _ _ h => h) .here rfl ?_)
            refine rl_nil ?_
            refine fin_block ?_
            exact hJ5 _ () h _ (join_imp 21 rfl rfl (mod_cons (j := 8) rfl (fun _ _ h => h) mod_nil) (.cons .here (.cons .here .nil)))
          · skip
            refine w_skip ?_
            refine fin_block ?_
            exact hJ5 _ () h _ (join_imp 20 rfl rfl (mod_cons (j := 8) rfl (fun _ _ h => h) mod_nil) (.cons .here (.cons .here .nil)))
        · skip
          refine w_condM h rfl (fun _ h => ?_) (fun _ h => ?_)
          · skip
            refine w_region ?_
            refine op_cons rfl (OpV.t (v_fa rfl GTok.f0 fd53_0) ?_)
            refine op_cons rfl (t_storeC (y' := ((GTok.mk (1 : Int) (Str.mk ((a_s.b.take (y7).toNat).drop (a_i).toNat)) a_i) : GTok)) ty3 rfl rfl (fun _ _ h => h) .here rfl ?_)
            refine rl_nil ?_
            exact hJ10 _ () h _ (join_imp 1 rfl rfl mod_nil (.cons .here (.cons .here .nil)))
          · skip
            refine w_skip ?_
            exact hJ10 _ () h _ (join_imp 0 rfl rfl mod_nil (.cons .here (.cons .here .nil)))
    · skip
      refine w_seq ?_
      refine w_region ?_
      refine op_cons rfl (OpV.t (v_move rfl) ?_)
      refine cal_inv h fun y12 hy12 h => ?_
      refine op_cons rfl (t_call (r04_digit_w hy12) hT (.same rfl .nil) .nil (fun R H' hR => ?_))
      obtain ⟨rfl, rfl⟩ := hR
      refine op_cons rfl (OpV.t (v_move rfl) ?_)
      refine rl_j (ι := Bool) (γ := Unit) (fun q13 g13 => [(66, isv (q13))]) (fun q13 g13 => []) .nil h 10 rfl (fun q13 g13 h => ?_) (fun J14 h hJ14 => ?_)
      · skip
        refine op_cons rfl (OpV.t (v_assign rfl) ?_)
        refine rl_nil ?_
        refine fin_nxt ?_
        refine w_condM h rfl (fun _ h => ?_) (fun _ h => ?_)
        · skip
          refine w_seq ?_
          refine w_region ?_
          refine op_cons rfl (OpV.t (v_move rfl) ?_)
          refine op_cons rfl (OpV.t (v_move rfl) ?_)
          refine cal_inv h fun y22 hy22 h => ?_
          refine op_cons rfl (t_call (r04_number_w hy22) hT (.same rfl (.same rfl .nil)) .nil (fun R H' hR => ?_))
          obtain ⟨rfl, rfl⟩ := hR
          refine op_cons rfl (OpV.t (v_assign rfl) ?_)
          refine rl_nil ?_
          refine fin_nxt ?_
          refine w_seq ?_
          refine w_seq ?_
          refine w_region ?_
          refine op_cons rfl (OpV.t (v_move rfl) ?_)
          refine op_cons rfl (OpV.t (v_lss rfl rfl) ?_)
          refine rl_nil ?_
          refine fin_nxt ?_
          refine w_condM h rfl (fun _ h => ?_) (fun _ h => ?_)
          · skip
            refine w_seq ?_
            refine w_region ?_
            refine op_cons rfl (t_loadC (R := isv ((GTok.mk (0 : Int) (Str.mk []) a_i))) ty53 rfl .here (fun _ _ h => h) ?_)
            refine op_cons rfl (t_storeC (y' := ((GTok.mk (0 : Int) (Str.mk []) a_i) : GTok)) ty53 rfl rfl (fun _ _ h => h) (.there .here) rfl ?_)
            refine op_cons rfl (OpV.t (v_assign rfl) ?_)
            refine rl_nil ?_
            refine fin_nxt ?_
            refine w_ret ?_
            refine ret_nxt ?_
            refine ret_block ?_
            refine ret_nxt ?_
            refine ret_post (.cell rfl .here ty53 (.tmp rfl .nil)) .nil ?_
            obtain rfl := Option.some.inj h
            exact ⟨rfl, rfl⟩
          · skip
            refine w_skip ?_
            refine fin_nxt ?_
            refine w_regionD (.v 0 (.v 1 (.v 2 (.v 3 (.v 4 (.t 5 (.v 6 (.t 7 .nil)))))))) moOrd (by kernel_rfl) ?_
            refine rd_v rfl (v_move rfl) ?_
            refine rd_v rfl (v_move rfl) ?_
            refine rd_v rfl (v_move rfl) ?_
            refine asd_inv h fun q23 h => ?_
            refine rd_v rfl (v_slS st9 rfl (.inr ⟨_, rfl, rfl⟩) (.inr ⟨_, rfl, rfl⟩) q23.1 q23.2.1 q23.2.2) ?_
            refine rd_v rfl (v_fa rfl GTok.f0 fd53_0) ?_
            refine rd_t rfl rfl (t_storeC (y' := ((GTok.mk (3 : Int) (Str.mk []) a_i) : GTok)) ty3 rfl rfl (fun _ _ h => h) .here rfl ?_)
            refine rd_v rfl (v_fa rfl GTok.f1 fd53_1) ?_
            refine rd_t rfl rfl (t_storeC (y' := ((GTok.mk (3 : Int) (Str.mk ((a_s.b.take (y22).toNat).drop (a_i).toNat)) a_i) : GTok)) ty9 rfl rfl (fun _ _ h => h) .here rfl ?_)
            refine rd_nil ?_
            refine fin_block ?_
            exact hJ5 _ () h _ (join_imp 20 rfl rfl (mod_cons (j := 8) rfl (fun _ _ h => h) mod_nil) (.cons .here (.cons .here .nil)))
        · skip
          refine w_seq ?_
          refine w_region ?_
          refine op_cons rfl (OpV.t (v_move rfl) ?_)
          refine op_cons rfl (OpV.t (v_eqA eq5 rfl rfl) ?_)
          refine op_cons rfl (OpV.t (v_assign rfl) ?_)
          refine rl_nil ?_
          refine fin_nxt ?_
          refine w_condM h rfl (fun _ h => ?_) (fun _ h => ?_)
          · skip
            refine w_seq ?_
            refine w_region ?_
            refine op_cons rfl (OpV.t (v_fa rfl GTok.f0 fd53_0) ?_)
            refine op_cons rfl (t_storeC (y' := ((GTok.mk (4 : Int) (Str.mk []) a_i) : GTok)) ty3 rfl rfl (fun _ _ h => h) .here rfl ?_)
            refine rl_nil ?_
            refine fin_nxt ?_
            refine w_region ?_
            refine op_cons rfl (OpV.t (v_move rfl) ?_)
            refine op_cons rfl (OpV.t (v_move rfl) ?_)
            refine cal_inv h fun y24 hy24 h => ?_
            refine op_cons rfl (t_call (r04_hex_w hy24) hT (.same rfl (.same rfl .nil)) .nil (fun R H' hR => ?_))
            obtain ⟨rfl, rfl⟩ := hR
            refine op_cons rfl (OpV.t (v_move rfl) ?_)
            refine op_cons rfl (OpV.t (v_extract rfl rfl) ?_)
            refine op_cons rfl (OpV.t (v_extract rfl rfl) ?_)
            refine op_cons rfl (OpV.t (v_assign rfl) ?_)
            refine op_cons rfl (OpV.t (v_fa rfl GTok.f1 fd53_1) ?_)
            refine op_cons rfl (t_storeC (y' := ((GTok.mk (4 : Int) y24.2 a_i) : GTok)) ty9 rfl rfl (fun _ _ h => h) .here rfl ?_)
            refine rl_nil ?_
            refine fin_block ?_
            exact hJ5 _ () h _ (join_imp 20 rfl rfl (mod_cons (j := 8) rfl (fun _ _ h => h) mod_nil) (.cons .here (.cons .here .nil)))
          · skip
            refine w_seq ?_
            refine w_region ?_
            refine op_cons rfl (OpV.t (v_move rfl) ?_)
            refine op_cons rfl (OpV.t (v_eqA eq5 rfl rfl) ?_)
            refine op_cons rfl (OpV.t (v_assign rfl) ?_)
            refine rl_nil ?_
            refine fin_nxt ?_
            refine w_condM h rfl (fun _ h => ?_) (fun _ h => ?_)
            · skip
              refine w_seq ?_
              refine w_region ?_
              refine op_cons rfl (OpV.t (v_fa rfl GTok.f0 fd53_0) ?_)
              refine op_cons rfl (t_storeC (y' := ((GTok.mk (7 : Int) (Str.mk []) a_i) : GTok)) ty3 rfl rfl (fun _ _ h => h) .here rfl ?_)
              refine rl_nil ?_
              refine fin_nxt ?_
              refine w_region ?_
              refine op_cons rfl (OpV.t (v_move rfl) ?_)
              refine op_cons rfl (OpV.t (v_move rfl) ?_)
              refine cal_inv h fun y25 hy25 h => ?_
              refine op_cons rfl (t_call (r04_quoted_w hy25) hT (.same rfl (.same rfl .nil)) .nil (fun R H' hR => ?_))
              obtain ⟨rfl, rfl⟩ := hR
              refine op_cons rfl (OpV.t (v_move rfl) ?_)
              refine op_cons rfl (OpV.t (v_extract rfl rfl) ?_)
              refine op_cons rfl (OpV.t (v_extract rfl rfl) ?_)
              refine op_cons rfl (OpV.t (v_assign rfl) ?_)
              refine op_cons rfl (OpV.t (v_fa rfl GTok.f1 fd53_1) ?_)
              refine op_cons rfl (t_storeC (y' := ((GTok.mk (7 : Int) y25.2 a_i) : GTok)) ty9 rfl rfl (fun _ _ h => h) .here rfl ?_)
              refine rl_nil ?_
              refine fin_block ?_
              exact hJ5 _ () h _ (join_imp 23 rfl rfl (mod_cons (j := 8) rfl (fun _ _ h => h) mod_nil) (.cons .here (.cons .here .nil)))
            · skip
              refine w_seq ?_
              refine w_region ?_
              refine op_cons rfl (OpV.t (v_move rfl) ?_)
              refine op_cons rfl (OpV.t (v_move rfl) ?_)
              refine cal_inv h fun y26 hy26 h => ?_
              refine op_cons rfl (t_call (r04_sign_w hy26) hT (.same rfl (.same rfl .nil)) .nil (fun R H' hR => ?_))
              obtain ⟨rfl, rfl⟩ := hR
              refine op_cons rfl (OpV.t (v_assign rfl) ?_)
              refine rl_nil ?_
              refine fin_nxt ?_
              refine w_seq ?_
              refine w_region ?_
              refine op_cons rfl (OpV.t (v_move rfl) ?_)
              refine op_cons rfl (OpV.t (v_gtr rfl rfl) ?_)
              refine rl_nil ?_
              refine fin_nxt ?_
              refine w_condM h rfl (fun _ h => ?_) (fun _ h => ?_)
              · skip
                refine w_regionD (.v 0 (.v 1 (.v 2 (.v 3 (.v 4 (.v 5 (.v 6 (.v 7 (.v 8 (.v 9 (.t 10 (.v 11 (.t 12 (.v 13 .nil)))))))))))))) moOrd (by kernel_rfl) ?_
                refine rd_v rfl (v_move rfl) ?_
                refine rd_v rfl (v_move rfl) ?_
                refine rd_v rfl (v_move rfl) ?_
                refine rd_v rfl (v_move rfl) ?_
                refine ck_inv h fun q27 h => ?_
                refine rd_v rfl (v_add rfl rfl q27) ?_
                refine asd_inv h fun q28 h => ?_
                refine rd_v rfl (v_slS st9 rfl (.inr ⟨_, rfl, rfl⟩) (.inr ⟨_, rfl, rfl⟩) q28.1 q28.2.1 q28.2.2) ?_
                refine rd_v rfl (v_move rfl) ?_
                refine rd_v rfl (v_move rfl) ?_
                refine ck_inv h fun q29 h => ?_
                refine rd_v rfl (v_add rfl rfl q29) ?_
                refine rd_v rfl (v_fa rfl GTok.f0 fd53_0) ?_
                refine rd_t rfl rfl (t_storeC (y' := ((GTok.mk (6 : Int) (Str.mk []) a_i) : GTok)) ty3 rfl rfl (fun _ _ h => h) .here rfl ?_)
                refine rd_v rfl (v_fa rfl GTok.f1 fd53_1) ?_
                refine rd_t rfl rfl (t_storeC (y' := ((GTok.mk (6 : Int) (Str.mk ((a_s.b.take ((a_i + y26)).toNat).drop (a_i).toNat)) a_i) : GTok)) ty9 rfl rfl (fun _ _ h => h) .here rfl ?_)
                refine rd_v rfl (v_assign rfl) ?_
                refine rd_nil ?_
                refine fin_block ?_
                exact hJ5 _ () h _ (join_imp 32 rfl rfl (mod_cons (j := 8) rfl (fun _ _ h => h) mod_nil) (.cons .here (.cons .here .nil)))
              · skip
                refine w_skip ?_
                refine fin_block ?_
                exact hJ5 _ () h _ (join_imp 20 rfl rfl (mod_cons (j := 8) rfl (fun _ _ h => h) mod_nil) (.cons .here (.cons .here .nil)))
      · skip
        refine rl_condM (j := 56) h rfl (fun g15 h => ?_) (fun g15 h => ?_)
        · skip
          refine op_pass rfl (dj := 56) rfl g15 ?_
          refine op_pass rfl (dj := 56) rfl g15 ?_
          refine op_pass rfl (dj := 56) rfl g15 ?_
          refine op_passU rfl (dj := 59) rfl ?_
          refine op_passU rfl (dj := 59) rfl ?_
          refine op_passU rfl (dj := 59) rfl ?_
          refine op_passU rfl (dj := 59) rfl ?_
          refine op_passU rfl (dj := 59) rfl ?_
          refine op_pass rfl (dj := 56) rfl g15 ?_
          refine op_cons rfl (OpV.t (v_pick_t rfl g15 rfl) ?_)
          exact hJ14 _ () h _ (join_imp 10 rfl rfl (mod_cons (j := 66) rfl (fun _ _ h => h) mod_nil) (.cons .here (.cons .here .nil)))
        · skip
          refine op_take rfl rfl (dj := 56) rfl g15 (OpV.t (v_move rfl) ?_)
          refine op_take rfl rfl (dj := 56) rfl g15 (OpV.t (v_eqA eq5 rfl rfl) ?_)
          refine op_take rfl rfl (dj := 56) rfl g15 (OpV.t (v_move rfl) ?_)
          refine rl_j (ι := Bool) (γ := Unit) (fun q16 g16 => [(65, isv (q16))]) (fun q16 g16 => []) .nil h 6 rfl (fun q16 g16 h => ?_) (fun J17 h hJ17 => ?_)
          · skip
            refine op_cons rfl (OpV.t (v_pick_f rfl g15 rfl) ?_)
            exact hJ14 _ () h _ (join_imp 5 rfl rfl (mod_cons (j := 66) rfl (fun _ _ h => h) mod_nil) (.cons .here (.cons .here .nil)))
          · skip
            refine rl_condM (j := 59) h rfl (fun g18 h => ?_) (fun g18 h => ?_)
            · skip
              refine op_take rfl rfl (dj := 59) rfl g18 (OpV.t (v_move rfl) ?_)
              refine op_take rfl rfl (dj := 59) rfl g18 (OpV.t (v_move rfl) ?_)
              refine ck_inv h fun q19 h => ?_
              refine op_take rfl rfl (dj := 59) rfl g18 (OpV.t (v_add rfl rfl q19) ?_)
              refine cal_inv h fun y20 hy20 h => ?_
              refine op_take rfl rfl (dj := 59) rfl g18 (t_call (r04_at_w hy20) hT (.same rfl (.same rfl .nil)) .nil (fun R H' hR => ?_))
              obtain ⟨rfl, rfl⟩ := hR
              refine cal_inv h fun y21 hy21 h => ?_
              refine op_take rfl rfl (dj := 59) rfl g18 (t_call (r04_digit_w hy21) hT (.same rfl .nil) .nil (fun R H' hR => ?_))
              obtain ⟨rfl, rfl⟩ := hR
              refine op_take rfl rfl (dj := 56) rfl g15 (OpV.t (v_pick_t rfl g18 rfl) ?_)
              exact hJ17 _ () h _ (join_imp 6 rfl rfl (mod_cons (j := 65) rfl (fun _ _ h => h) mod_nil) (.cons .here (.cons .here .nil)))
            · skip
              refine op_pass rfl (dj := 59) rfl g18 ?_
              refine op_pass rfl (dj := 59) rfl g18 ?_
              refine op_pass rfl (dj := 59) rfl g18 ?_
              refine op_pass rfl (dj := 59) rfl g18 ?_
              refine op_pass rfl (dj := 59) rfl g18 ?_
              refine op_take rfl rfl (dj := 56) rfl g15 (OpV.t (v_pick_f rfl g18 rfl) ?_)
              exact hJ17 _ () h _ (join_imp 6 rfl rfl (mod_cons (j := 65) rfl (fun _ _ h => h) mod_nil) (.cons .here (.cons .here .nil)))


theorem r04_Tokens_w : ∀ {a_text : Str} {r : (List GTok) × Int × Int}, r04_Tokens a_text = some r → Ctr Tryd.prog 19 [isv (a_text)] [] (fun R H => R = oneOf [isv (r.1), isv (r.2.1), isv (r.2.2)] ∧ H = []) := by
  intro a_text r h
  unfold r04_Tokens at h
  refine spec_intro Tryd.func19 rfl (by decide +kernel) (by rfl) fun w0 S0 hT => ?_
  refine w_seq ?_
  refine w_region ?_
  refine op_cons rfl (OpV.t (v_assign rfl) ?_)
  refine op_cons rfl (OpV.t (v_assign rfl) ?_)
  refine op_cons rfl (OpV.t (v_assign rfl) ?_)
  refine rl_nil ?_
  refine fin_nxt ?_
  refine w_seq ?_
  refine w_seq ?_
  refine w_region ?_
  refine op_cons rfl (OpV.t (v_move rfl) ?_)
  refine op_cons rfl (OpV.t (v_lenS st9 rfl) ?_)
  refine op_cons rfl (OpV.t (v_gtr rfl rfl) ?_)
  refine rl_nil ?_
  refine fin_nxt ?_
  refine w_condM h rfl (fun _ h => ?_) (fun _ h => ?_)
  · skip
    refine w_seq ?_
    refine w_region ?_
    refine op_cons rfl (OpV.t (v_assign rfl) ?_)
    refine op_cons rfl (OpV.t (v_assign rfl) ?_)
    refine op_cons rfl (OpV.t (v_assign rfl) ?_)
    refine rl_nil ?_
    refine fin_nxt ?_
    refine w_ret ?_
    refine ret_nxt ?_
    refine ret_post (.as rfl (nilv_isv (α := GTok)) (.tmp rfl (.tmp rfl .nil))) .nil ?_
    obtain rfl := Option.some.inj h
    exact ⟨rfl, rfl⟩
  · skip
    refine w_skip ?_
    refine fin_nxt ?_
    refine w_seq ?_
    refine w_region ?_
    refine op_cons rfl (OpV.t (v_assign rfl) ?_)
    refine rl_nil ?_
    refine fin_nxt ?_
    refine w_seq ?_
    refine w_region ?_
    refine op_cons rfl (OpV.t (v_assign rfl) ?_)
    refine rl_nil ?_
    refine fin_nxt ?_
    refine w_block ?_
    refine w_upd (upd_tok) ?_
    refine w_lp (ι := (List GTok) × Int) (γ := Tok) (fun q1 g1 => [(5, appv g1 (q1.1)), (6, isv (q1.2))]) (fun q1 g1 => [tokE g1]) h (none) (mod_cons (j := 5) rfl nilv_appv (mod_cons (j := 6) rfl (fun _ _ h => h) mod_nil)) (.cons .here .nil) (fun L2 q1 g1 Q22 h hL2 eL2 rL2 => ?_)
    refine w_block ?_
    refine w_seq ?_
    refine w_region ?_
    refine op_cons rfl (OpV.t (v_move rfl) ?_)
    refine op_cons rfl (OpV.t (v_move rfl) ?_)
    refine cal_inv h fun y12 hy12 h => ?_
    refine op_cons rfl (t_call (r04_white_w hy12) hT (.same rfl (.same rfl .nil)) .nil (fun R H' hR => ?_))
    obtain ⟨rfl, rfl⟩ := hR
    refine op_cons rfl (OpV.t (v_assign rfl) ?_)
    refine rl_nil ?_
    refine fin_nxt ?_
    refine w_seq ?_
    refine w_seq ?_
    refine w_region ?_
    refine op_cons rfl (OpV.t (v_move rfl) ?_)
    refine op_cons rfl (OpV.t (v_move rfl) ?_)
    refine op_cons rfl (OpV.t (v_lenS st9 rfl) ?_)
    refine op_cons rfl (OpV.t (v_geq rfl rfl) ?_)
    refine rl_nil ?_
    refine fin_nxt ?_
    refine w_condM h rfl (fun _ h => ?_) (fun _ h => ?_)
    · skip
      refine w_seq ?_
      refine w_region ?_
      refine op_cons rfl (OpV.t (v_move rfl) ?_)
      refine op_cons rfl (OpV.t (v_move rfl) ?_)
      refine op_cons rfl (OpV.t (v_lenS st9 rfl) ?_)
      refine op_cons rfl (OpV.t (v_build (z := (GTok.mk (0 : Int) (Str.mk []) (a_text.b.length : Int))) rfl bu53 ze53 (.cons GTok.f2 fd53_2 rfl (fun _ _ h => h) .nil)) ?_)
      refine op_cons rfl (t_buildSlice (l := ([(GTok.mk (0 : Int) (Str.mk []) (a_text.b.length : Int))] : (List GTok))) el44 (.cons rfl (fun _ _ h => h) .nil) rfl rfl ?_)
      refine asr_inv h fun q15 h => ?_
      refine op_cons rfl (t_appC (l := q1.1) (m := ([(GTok.mk (0 : Int) (Str.mk []) (a_text.b.length : Int))] : (List GTok))) ap44_44 rfl (fun _ _ h => h) rfl appv_isv .here q15 fun t14 => ?_)
      refine op_cons rfl (OpV.t (v_assign rfl) ?_)
      refine op_cons rfl (OpV.t (v_assign rfl) ?_)
      refine op_cons rfl (OpV.t (v_assign rfl) ?_)
      refine rl_nil ?_
      refine fin_nxt ?_
      refine w_ret ?_
      refine ret_nxt ?_
      refine ret_block ?_
      refine rL2 _ ?_
      refine ret_block ?_
      refine ret_post (.as rfl appv_isv (.tmp rfl (.tmp rfl .nil))) .nil ?_
      obtain rfl := Option.some.inj h
      exact ⟨rfl, rfl⟩
    · skip
      refine w_skip ?_
      refine fin_nxt ?_
      refine w_seq ?_
      refine w_region ?_
      refine op_cons rfl (OpV.t (v_move rfl) ?_)
      refine op_cons rfl (OpV.t (v_move rfl) ?_)
      refine cal_inv h fun y16 hy16 h => ?_
      refine op_cons rfl (t_call (r04_one_w hy16) hT (.same rfl (.same rfl .nil)) .nil (fun R H' hR => ?_))
      obtain ⟨rfl, rfl⟩ := hR
      refine op_cons rfl (OpV.t (v_move rfl) ?_)
      refine op_cons rfl (OpV.t (v_extract rfl rfl) ?_)
      refine op_cons rfl (OpV.t (v_extract rfl rfl) ?_)
      refine op_cons rfl (t_alloc _ ze53 fun b17 => ?_)
      refine op_cons rfl (t_storeC (y' := (y16.1 : GTok)) ty53 rfl rfl (fun _ _ h => h) .here rfl ?_)
      refine rl_upd (upd_imm 7 .here rfl) ?_
      refine op_cons rfl (OpV.t (v_assign rfl) ?_)
      refine rl_nil ?_
      refine fin_nxt ?_
      refine w_seq ?_
      refine w_seq ?_
      refine w_region ?_
      refine op_cons rfl (OpV.t (v_move rfl) ?_)
      refine op_cons rfl (OpV.t (v_lss rfl rfl) ?_)
      refine rl_nil ?_
      refine fin_nxt ?_
      refine w_condM h rfl (fun _ h => ?_) (fun _ h => ?_)
      · skip
        refine w_seq ?_
        refine w_region ?_
        refine op_cons rfl (OpV.t (v_move rfl) ?_)
        refine op_cons rfl (OpV.t (v_assign rfl) ?_)
        refine op_cons rfl (OpV.t (v_assign rfl) ?_)
        refine op_cons rfl (OpV.t (v_assign rfl) ?_)
        refine rl_nil ?_
        refine fin_nxt ?_
        refine w_ret ?_
        refine ret_nxt ?_
        refine ret_block ?_
        refine rL2 _ ?_
        refine ret_block ?_
        refine ret_post (.as rfl (nilv_isv (α := GTok)) (.tmp rfl (.tmp rfl .nil))) .nil ?_
        obtain rfl := Option.some.inj h
        exact ⟨rfl, rfl⟩
      · skip
        refine w_skip ?_
        refine fin_nxt ?_
        refine w_seq ?_
        refine w_region ?_
        refine op_cons rfl (OpV.t (v_move rfl) ?_)
        refine op_cons rfl (OpV.t (v_loadI ty53 rfl) ?_)
        refine op_cons rfl (t_buildSlice (l := ([y16.1] : (List GTok))) el44 (.cons rfl (fun _ _ h => h) .nil) rfl rfl ?_)
        refine asr_inv h fun q20 h => ?_
        refine op_cons rfl (t_appC (l := q1.1) (m := ([y16.1] : (List GTok))) ap44_44 rfl (fun _ _ h => h) rfl appv_isv .here q20 fun t19 => ?_)
        refine op_cons rfl (OpV.t (v_assign rfl) ?_)
        refine rl_nil ?_
        refine fin_nxt ?_
        refine w_region ?_
        refine op_cons rfl (OpV.t (v_move rfl) ?_)
        refine op_cons rfl (OpV.t (v_assign rfl) ?_)
        refine rl_nil ?_
        refine fin_block ?_
        exact hL2 _ (t19) h _ (join_imp 28 rfl rfl (mod_cons (j := 5) rfl (fun _ _ h => h) (mod_cons (j := 6) rfl (fun _ _ h => h) mod_nil)) (.cons .here .nil))


theorem r05_parser_now_w : ∀ {a_x : GPar} {b_a_x : Nat} {t_a_x1 : Tok} {t_a_x2 : Tok} {v_a_x3 : Vt} {r : GTok × GPar}, r05_parser_now a_x = some r → Ctr Tryd.prog 23 [ptrv b_a_x (Fld.id ((List GTok) × Int × (Str × Int × (TList Str) × (TList Int) × Vh) × Int × Int))] [boxE b_a_x ((a_x.l, a_x.at_, (a_x.m.name, a_x.m.tagging, (TList.mk t_a_x1 a_x.m.names), (TList.mk t_a_x2 a_x.m.types), (Vh.mk v_a_x3 a_x.m.nodes.length)), a_x.e, a_x.p) : ((List GTok) × Int × (Str × Int × (TList Str) × (TList Int) × Vh) × Int × Int)), tokE t_a_x1, tokE t_a_x2, vecE v_a_x3 (a_x.m.nodes : List GNode)] (fun R H => ∃ u1 : Tok, ∃ u2 : Tok, ∃ u3 : Vt, R = oneOf [isv (r.1)] ∧ H = [boxE b_a_x ((r.2.l, r.2.at_, (r.2.m.name, r.2.m.tagging, (TList.mk u1 r.2.m.names), (TList.mk u2 r.2.m.types), (Vh.mk u3 r.2.m.nodes.length)), r.2.e, r.2.p)), tokE u1, tokE u2, vecE u3 (r.2.m.nodes)]) := by
  intro a_x b_a_x t_a_x1 t_a_x2 v_a_x3 r h
  unfold r05_parser_now at h
  refine spec_intro Tryd.func23 rfl (by decide +kernel) (by rfl) fun w0 S0 hT => ?_
  refine w_seq ?_
  refine w_region ?_
  refine op_cons rfl (t_alloc _ ze53 fun b4 => ?_)
  refine rl_nil ?_
  refine fin_nxt ?_
  refine w_seq ?_
  refine w_pinN 0 (.there .here) rfl (fun o5 hn6 => ?_)
  refine w_regionD (.v 0 (.v 1 (.v 2 (.v 3 (.v 4 (.v 5 (.v 6 (.v 7 (.v 8 (.v 9 (.t 10 .nil))))))))))) moOrd (by kernel_rfl) ?_
  refine rd_v rfl (v_move rfl) ?_
  refine rd_v rfl (v_nilCheckP rfl) ?_
  refine rd_v rfl (v_fp rfl pt49_0_0 fd49_0) ?_
  refine rd_v rfl (v_lpC (R := isv (a_x.l)) ty44 rfl (by simp) (fun _ _ h => h)) ?_
  refine rd_v rfl (v_move rfl) ?_
  refine rd_v rfl (v_nilCheckP rfl) ?_
  refine rd_v rfl (v_fp rfl pt49_0_1 fd49_1) ?_
  refine rd_v rfl (v_lpC (R := isv (a_x.at_)) ty3 rfl (by simp) (fun _ _ h => h)) ?_
  refine cal_inv h fun y7 hy7 h => ?_
  refine rd_v rfl (v_ix (l := a_x.l) rfl (fun _ _ h => h) rfl sl44 hy7) ?_
  refine rd_v rfl (v_loadI ty53 rfl) ?_
  refine rd_t rfl rfl (t_storeC (y' := (y7 : GTok)) ty53 rfl rfl (fun _ _ h => h) .here rfl ?_)
  refine rd_nil ?_
  refine fin_unpinN 0 hn6 rfl ?_
  refine fin_nxt ?_
  refine w_ret ?_
  refine ret_post (.cell rfl (.there .here) ty53 .nil) (.cons .here (.cons (.there .here) (.cons (.there .here) (.cons (.there .here) .nil)))) ?_
  obtain rfl := Option.some.inj h
  exact ⟨t_a_x1, t_a_x2, v_a_x3, rfl, rfl⟩


theorem r05_parser_fail_w : ∀ {a_x : GPar} {a_e : Int} {a_t : GTok} {b_a_x : Nat} {t_a_x1 : Tok} {t_a_x2 : Tok} {v_a_x3 : Vt} {r : GPar}, r05_parser_fail a_x a_e a_t = some r → Ctr Tryd.prog 24 [ptrv b_a_x (Fld.id ((List GTok) × Int × (Str × Int × (TList Str) × (TList Int) × Vh) × Int × Int)), isv (a_e), isv (a_t)] [boxE b_a_x ((a_x.l, a_x.at_, (a_x.m.name, a_x.m.tagging, (TList.mk t_a_x1 a_x.m.names), (TList.mk t_a_x2 a_x.m.types), (Vh.mk v_a_x3 a_x.m.nodes.length)), a_x.e, a_x.p) : ((List GTok) × Int × (Str × Int × (TList Str) × (TList Int) × Vh) × Int × Int)), tokE t_a_x1, tokE t_a_x2, vecE v_a_x3 (a_x.m.nodes : List GNode)] (fun R H => ∃ u1 : Tok, ∃ u2 : Tok, ∃ u3 : Vt, R = oneOf [] ∧ H = [boxE b_a_x ((r.l, r.at_, (r.m.name, r.m.tagging, (TList.mk u1 r.m.names), (TList.mk u2 r.m.types), (Vh.mk u3 r.m.nodes.length)), r.e, r.p)), tokE u1, tokE u2, vecE u3 (r.m.nodes)]) := by
  intro a_x a_e a_t b_a_x t_a_x1 t_a_x2 v_a_x3 r h
  unfold r05_parser_fail at h
  refine spec_intro Tryd.func24 rfl (by decide +kernel) (by rfl) fun w0 S0 hT => ?_
  refine w_seq ?_
  refine w_region ?_
  refine op_cons rfl (t_boxIC (y := a_t) rfl (fun _ _ h => h) ?_)
  refine rl_nil ?_
  refine fin_nxt ?_
  refine w_seq ?_
  refine w_region ?_
  refine op_cons rfl (OpV.t (v_move rfl) ?_)
  refine op_cons rfl (OpV.t (v_nilCheck rfl) ?_)
  refine op_cons rfl (OpV.t (v_fa rfl pt49_0_3 fd49_3) ?_)
  refine op_cons rfl (t_loadC (R := isv (a_x.e)) ty27 rfl .here (fun _ _ h => h) ?_)
  refine op_cons rfl (OpV.t (v_eql rfl rfl) ?_)
  refine rl_nil ?_
  refine fin_nxt ?_
  refine w_condM h rfl (fun _ h => ?_) (fun _ h => ?_)
  · skip
    refine w_regionD (.v 0 (.v 1 (.v 2 (.v 3 (.v 4 (.v 5 (.v 6 (.t 7 (.v 8 (.v 9 (.t 10 .nil))))))))))) moOrd (by kernel_rfl) ?_
    refine rd_v rfl (v_move rfl) ?_
    refine rd_v rfl (v_move rfl) ?_
    refine rd_v rfl (v_move rfl) ?_
    refine rd_v rfl (v_fi rfl GTok.f2 fd53_2 rfl (z := a_t.at_)) ?_
    refine rd_v rfl (v_loadI ty3 rfl) ?_
    refine rd_v rfl (v_nilCheck rfl) ?_
    refine rd_v rfl (v_fa rfl pt49_0_3 fd49_3) ?_
    refine rd_t rfl rfl (t_storeC (y' := ((a_x.l, a_x.at_, (a_x.m.name, a_x.m.tagging, (TList.mk t_a_x1 a_x.m.names), (TList.mk t_a_x2 a_x.m.types), (Vh.mk v_a_x3 a_x.m.nodes.length)), a_e, a_x.p) : ((List GTok) × Int × (Str × Int × (TList Str) × (TList Int) × Vh) × Int × Int))) ty27 rfl rfl (fun _ _ h => h) .here rfl ?_)
    refine rd_v rfl (v_nilCheck rfl) ?_
    refine rd_v rfl (v_fa rfl pt49_0_4 fd49_4) ?_
    refine rd_t rfl rfl (t_storeC (y' := ((a_x.l, a_x.at_, (a_x.m.name, a_x.m.tagging, (TList.mk t_a_x1 a_x.m.names), (TList.mk t_a_x2 a_x.m.types), (Vh.mk v_a_x3 a_x.m.nodes.length)), a_e, a_t.at_) : ((List GTok) × Int × (Str × Int × (TList Str) × (TList Int) × Vh) × Int × Int))) ty3 rfl rfl (fun _ _ h => h) .here rfl ?_)
    refine rd_nil ?_
    refine fin_post .nil (.cons .here (.cons .here (.cons .here (.cons .here .nil)))) ?_
    obtain rfl := Option.some.inj h
    exact ⟨t_a_x1, t_a_x2, v_a_x3, rfl, rfl⟩
  · skip
    refine w_skip ?_
    refine fin_post .nil (.cons .here (.cons .here (.cons .here (.cons .here .nil)))) ?_
    obtain rfl := Option.some.inj h
    exact ⟨t_a_x1, t_a_x2, v_a_x3, rfl, rfl⟩


theorem r05_parser_next_w : ∀ {a_x : GPar} {b_a_x : Nat} {t_a_x1 : Tok} {t_a_x2 : Tok} {v_a_x3 : Vt} {r : GTok × GPar}, r05_parser_next a_x = some r → Ctr Tryd.prog 40 [ptrv b_a_x (Fld.id ((List GTok) × Int × (Str × Int × (TList Str) × (TList Int) × Vh) × Int × Int))] [boxE b_a_x ((a_x.l, a_x.at_, (a_x.m.name, a_x.m.tagging, (TList.mk t_a_x1 a_x.m.names), (TList.mk t_a_x2 a_x.m.types), (Vh.mk v_a_x3 a_x.m.nodes.length)), a_x.e, a_x.p) : ((List GTok) × Int × (Str × Int × (TList Str) × (TList Int) × Vh) × Int × Int)), tokE t_a_x1, tokE t_a_x2, vecE v_a_x3 (a_x.m.nodes : List GNode)] (fun R H => ∃ u1 : Tok, ∃ u2 : Tok, ∃ u3 : Vt, R = oneOf [isv (r.1)] ∧ H = [boxE b_a_x ((r.2.l, r.2.at_, (r.2.m.name, r.2.m.tagging, (TList.mk u1 r.2.m.names), (TList.mk u2 r.2.m.types), (Vh.mk u3 r.2.m.nodes.length)), r.2.e, r.2.p)), tokE u1, tokE u2, vecE u3 (r.2.m.nodes)]) := by
  intro a_x b_a_x t_a_x1 t_a_x2 v_a_x3 r h
  unfold r05_parser_next at h
  refine spec_intro Tryd.func40 rfl (by decide +kernel) (by rfl) fun w0 S0 hT => ?_
  refine w_seq ?_
  refine w_region ?_
  refine op_cons rfl (t_alloc _ ze53 fun b4 => ?_)
  refine rl_nil ?_
  refine fin_nxt ?_
  refine w_seq ?_
  refine w_pinN 0 (.there .here) rfl (fun o5 hn6 => ?_)
  refine w_regionD (.v 0 (.v 1 (.v 2 (.v 3 (.v 4 (.v 5 (.v 6 (.v 7 (.v 8 (.v 9 (.t 10 (.t 11 .nil)))))))))))) moOrd (by kernel_rfl) ?_
  refine rd_v rfl (v_move rfl) ?_
  refine rd_v rfl (v_nilCheckP rfl) ?_
  refine rd_v rfl (v_fp rfl pt49_0_0 fd49_0) ?_
  refine rd_v rfl (v_lpC (R := isv (a_x.l)) ty44 rfl (by simp) (fun _ _ h => h)) ?_
  refine rd_v rfl (v_move rfl) ?_
  refine rd_v rfl (v_nilCheckP rfl) ?_
  refine rd_v rfl (v_fp rfl pt49_0_1 fd49_1) ?_
  refine rd_v rfl (v_lpC (R := isv (a_x.at_)) ty3 rfl (by simp) (fun _ _ h => h)) ?_
  refine cal_inv h fun y7 hy7 h => ?_
  refine rd_v rfl (v_ix (l := a_x.l) rfl (fun _ _ h => h) rfl sl44 hy7) ?_
  refine rd_v rfl (v_loadI ty53 rfl) ?_
  refine rd_t rfl rfl (t_alloc _ ze53 fun b8 => ?_)
  refine rd_t rfl rfl (t_storeC (y' := (y7 : GTok)) ty53 rfl rfl (fun _ _ h => h) .here rfl ?_)
  refine rd_upd (upd_imm 3 .here rfl) ?_
  refine rd_nil ?_
  refine fin_unpinN 0 hn6 rfl ?_
  refine fin_nxt ?_
  refine w_seq ?_
  refine w_seq ?_
  refine w_pinN 0 .here rfl (fun o9 hn10 => ?_)
  refine w_regionD (.v 0 (.v 1 (.v 2 (.v 3 (.v 4 (.v 5 (.v 6 (.v 7 (.v 8 (.v 9 (.v 10 .nil))))))))))) moOrd (by kernel_rfl) ?_
  refine rd_v rfl (v_move rfl) ?_
  refine rd_v rfl (v_nilCheckP rfl) ?_
  refine rd_v rfl (v_fp rfl pt49_0_1 fd49_1) ?_
  refine rd_v rfl (v_lpC (R := isv (a_x.at_)) ty3 rfl (by simp) (fun _ _ h => h)) ?_
  refine ck_inv h fun q11 h => ?_
  refine rd_v rfl (v_add rfl rfl q11) ?_
  refine rd_v rfl (v_move rfl) ?_
  refine rd_v rfl (v_nilCheckP rfl) ?_
  refine rd_v rfl (v_fp rfl pt49_0_0 fd49_0) ?_
  refine rd_v rfl (v_lpC (R := isv (a_x.l)) ty44 rfl (by simp) (fun _ _ h => h)) ?_
  refine rd_v rfl (v_ln (l := a_x.l) rfl (fun _ _ h => h) sl44) ?_
  refine rd_v rfl (v_lss rfl rfl) ?_
  refine rd_nil ?_
  refine fin_unpinN 0 hn10 rfl ?_
  refine fin_nxt ?_
  refine w_J (ι := GPar) (γ := Tok × Tok × Vt) (fun q12 g12 => []) (fun q12 g12 => [boxE b_a_x ((q12.l, q12.at_, (q12.m.name, q12.m.tagging, (TList.mk g12.1 q12.m.names), (TList.mk g12.2.1 q12.m.types), (Vh.mk g12.2.2 q12.m.nodes.length)), q12.e, q12.p) : ((List GTok) × Int × (Str × Int × (TList Str) × (TList Int) × Vh) × Int × Int)), tokE g12.1, tokE g12.2.1, vecE g12.2.2 (q12.m.nodes : List GNode)]) (.cons .here (.cons (.there .here) (.cons (.there .here) (.cons (.there .here) .nil)))) h (fun q12 g12 h => ?_) (fun J13 h hJ13 => ?_)
  · skip
    refine w_seq ?_
    refine w_region ?_
    refine op_cons rfl (OpV.t (v_loadI ty53 rfl) ?_)
    refine op_cons rfl (t_storeC (y' := (y7 : GTok)) ty53 rfl rfl (fun _ _ h => h) (.there (.there (.there (.there .here)))) rfl ?_)
    refine rl_nil ?_
    refine fin_nxt ?_
    refine w_ret ?_
    refine ret_post (.cell rfl .here ty53 .nil) (.cons (.there .here) (.cons (.there .here) (.cons (.there .here) (.cons (.there .here) .nil)))) ?_
    obtain rfl := Option.some.inj h
    exact ⟨g12.1, g12.2.1, g12.2.2, rfl, rfl⟩
  · skip
    refine w_condM h rfl (fun _ h => ?_) (fun _ h => ?_)
    · skip
      refine w_region ?_
      refine op_cons rfl (OpV.t (v_move rfl) ?_)
      refine op_cons rfl (OpV.t (v_nilCheck rfl) ?_)
      refine op_cons rfl (OpV.t (v_fa rfl pt49_0_1 fd49_1) ?_)
      refine op_cons rfl (t_loadC (R := isv (a_x.at_)) ty3 rfl .here (fun _ _ h => h) ?_)
      refine ck_inv h fun q14 h => ?_
      refine op_cons rfl (OpV.t (v_add rfl rfl q14) ?_)
      refine op_cons rfl (OpV.t (v_nilCheck rfl) ?_)
      refine op_cons rfl (OpV.t (v_fa rfl pt49_0_1 fd49_1) ?_)
      refine op_cons rfl (t_storeC (y' := ((a_x.l, (a_x.at_ + (1 : Int)), (a_x.m.name, a_x.m.tagging, (TList.mk t_a_x1 a_x.m.names), (TList.mk t_a_x2 a_x.m.types), (Vh.mk v_a_x3 a_x.m.nodes.length)), a_x.e, a_x.p) : ((List GTok) × Int × (Str × Int × (TList Str) × (TList Int) × Vh) × Int × Int))) ty3 rfl rfl (fun _ _ h => h) .here rfl ?_)
      refine rl_nil ?_
      exact hJ13 _ (t_a_x1, t_a_x2, v_a_x3) h _ (join_imp 7 rfl rfl mod_nil (.cons .here (.cons (.there .here) (.cons (.there .here) (.cons (.there .here) (.cons .here .nil))))))
    · skip
      refine w_skip ?_
      exact hJ13 _ (t_a_x1, t_a_x2, v_a_x3) h _ (join_imp 0 rfl rfl mod_nil (.cons .here (.cons (.there .here) (.cons (.there .here) (.cons (.there .here) (.cons .here .nil))))))


theorem r05_parser_kind_w : ∀ {a_x : GPar} {a_k : Int} {b_a_x : Nat} {t_a_x1 : Tok} {t_a_x2 : Tok} {v_a_x3 : Vt} {r : Str × GPar}, r05_parser_kind a_x a_k = some r → Ctr Tryd.prog 20 [ptrv b_a_x (Fld.id ((List GTok) × Int × (Str × Int × (TList Str) × (TList Int) × Vh) × Int × Int)), isv (a_k)] [boxE b_a_x ((a_x.l, a_x.at_, (a_x.m.name, a_x.m.tagging, (TList.mk t_a_x1 a_x.m.names), (TList.mk t_a_x2 a_x.m.types), (Vh.mk v_a_x3 a_x.m.nodes.length)), a_x.e, a_x.p) : ((List GTok) × Int × (Str × Int × (TList Str) × (TList Int) × Vh) × Int × Int)), tokE t_a_x1, tokE t_a_x2, vecE v_a_x3 (a_x.m.nodes : List GNode)] (fun R H => ∃ u1 : Tok, ∃ u2 : Tok, ∃ u3 : Vt, R = oneOf [isv (r.1)] ∧ H = [boxE b_a_x ((r.2.l, r.2.at_, (r.2.m.name, r.2.m.tagging, (TList.mk u1 r.2.m.names), (TList.mk u2 r.2.m.types), (Vh.mk u3 r.2.m.nodes.length)), r.2.e, r.2.p)), tokE u1, tokE u2, vecE u3 (r.2.m.nodes)]) := by
  intro a_x a_k b_a_x t_a_x1 t_a_x2 v_a_x3 r h
  unfold r05_parser_kind at h
  refine spec_intro Tryd.func20 rfl (by decide +kernel) (by rfl) fun w0 S0 hT => ?_
  refine w_seq ?_
  refine w_region ?_
  refine op_cons rfl (OpV.t (v_assign rfl) ?_)
  refine rl_nil ?_
  refine fin_nxt ?_
  refine w_seq ?_
  refine w_region ?_
  refine op_cons rfl (OpV.t (v_move rfl) ?_)
  refine cal_inv h fun y4 hy4 h => ?_
  refine op_cons rfl (t_call (r05_parser_now_w hy4) hT (.same rfl .nil) (.cons .here (.cons .here (.cons .here (.cons .here .nil)))) (fun R H' hR => ?_))
  obtain ⟨t5, t6, v7, rfl, rfl⟩ := hR
  refine op_cons rfl (t_alloc _ ze53 fun b8 => ?_)
  refine op_cons rfl (t_storeC (y' := (y4.1 : GTok)) ty53 rfl rfl (fun _ _ h => h) .here rfl ?_)
  refine rl_upd (upd_imm 5 .here rfl) ?_
  refine rl_nil ?_
  refine fin_nxt ?_
  refine w_seq ?_
  refine w_seq ?_
  refine w_region ?_
  refine op_cons rfl (OpV.t (v_move rfl) ?_)
  refine op_cons rfl (OpV.t (v_nilCheck rfl) ?_)
  refine op_cons rfl (OpV.t (v_fa rfl pt49_0_3 fd49_3) ?_)
  refine op_cons rfl (t_loadC (R := isv (y4.2.e)) ty27 rfl .here (fun _ _ h => h) ?_)
  refine op_cons rfl (OpV.t (v_neq rfl rfl) ?_)
  refine op_cons rfl (OpV.t (v_move rfl) ?_)
  refine rl_j (ι := Bool) (γ := Unit) (fun q9 g9 => [(18, isv (q9))]) (fun q9 g9 => []) .nil h 5 rfl (fun q9 g9 h => ?_) (fun J10 h hJ10 => ?_)
  · skip
    refine rl_nil ?_
    refine fin_nxt ?_
    refine w_condM h rfl (fun _ h => ?_) (fun _ h => ?_)
    · skip
      refine w_seq ?_
      refine w_region ?_
      refine op_cons rfl (OpV.t (v_move rfl) ?_)
      refine op_cons rfl (OpV.t (v_loadI ty53 rfl) ?_)
      refine cal_inv h fun y12 hy12 h => ?_
      refine op_cons rfl (t_call (r05_parser_fail_w hy12) hT (.same rfl (.same rfl (.same rfl .nil))) (.cons .here (.cons .here (.cons .here (.cons .here .nil)))) (fun R H' hR => ?_))
      obtain ⟨t13, t14, v15, rfl, rfl⟩ := hR
      refine rl_nil ?_
      refine fin_nxt ?_
      refine w_seq ?_
      refine w_region ?_
      refine op_cons rfl (OpV.t (v_assign rfl) ?_)
      refine rl_nil ?_
      refine fin_nxt ?_
      refine w_ret ?_
      refine ret_nxt ?_
      refine ret_post (.tmp rfl .nil) (.cons .here (.cons .here (.cons .here (.cons .here .nil)))) ?_
      obtain rfl := Option.some.inj h
      exact ⟨t13, t14, v15, rfl, rfl⟩
    · skip
      refine w_skip ?_
      refine fin_nxt ?_
      refine w_seq ?_
      refine w_region ?_
      refine op_cons rfl (OpV.t (v_move rfl) ?_)
      refine cal_inv h fun y16 hy16 h => ?_
      refine op_cons rfl (t_call (r05_parser_next_w hy16) hT (.same rfl .nil) (.cons .here (.cons .here (.cons .here (.cons .here .nil)))) (fun R H' hR => ?_))
      obtain ⟨t17, t18, v19, rfl, rfl⟩ := hR
      refine op_cons rfl (OpV.t (v_field GTok.f1 rfl fd53_1 rfl) ?_)
      refine op_cons rfl (OpV.t (v_assign rfl) ?_)
      refine rl_nil ?_
      refine fin_nxt ?_
      refine w_ret ?_
      refine ret_post (.tmp rfl .nil) (.cons .here (.cons .here (.cons .here (.cons .here .nil)))) ?_
      obtain rfl := Option.some.inj h
      exact ⟨t17, t18, v19, rfl, rfl⟩
  · skip
    refine rl_condM (j := 13) h rfl (fun g11 h => ?_) (fun g11 h => ?_)
    · skip
      refine op_pass rfl (dj := 13) rfl g11 ?_
      refine op_pass rfl (dj := 13) rfl g11 ?_
      refine op_pass rfl (dj := 13) rfl g11 ?_
      refine op_pass rfl (dj := 13) rfl g11 ?_
      refine op_cons rfl (OpV.t (v_pick_t rfl g11 rfl) ?_)
      exact hJ10 _ () h _ (join_imp 5 rfl rfl (mod_cons (j := 18) rfl (fun _ _ h => h) mod_nil) (.cons .here (.cons .here (.cons .here (.cons .here .nil)))))
    · skip
      refine op_take rfl rfl (dj := 13) rfl g11 (OpV.t (v_fi rfl GTok.f0 fd53_0 rfl (z := y4.1.kind)) ?_)
      refine op_take rfl rfl (dj := 13) rfl g11 (OpV.t (v_loadI ty3 rfl) ?_)
      refine op_take rfl rfl (dj := 13) rfl g11 (OpV.t (v_move rfl) ?_)
      refine op_take rfl rfl (dj := 13) rfl g11 (OpV.t (v_neq rfl rfl) ?_)
      refine op_cons rfl (OpV.t (v_pick_f rfl g11 rfl) ?_)
      exact hJ10 _ () h _ (join_imp 5 rfl rfl (mod_cons (j := 18) rfl (fun _ _ h => h) mod_nil) (.cons .here (.cons .here (.cons .here (.cons .here .nil)))))


theorem r05_parser_is_w : ∀ {a_x : GPar} {a_s : Str} {b_a_x : Nat} {t_a_x1 : Tok} {t_a_x2 : Tok} {v_a_x3 : Vt} {r : Bool × GPar}, r05_parser_is a_x a_s = some r → Ctr Tryd.prog 22 [ptrv b_a_x (Fld.id ((List GTok) × Int × (Str × Int × (TList Str) × (TList Int) × Vh) × Int × Int)), isv (a_s)] [boxE b_a_x ((a_x.l, a_x.at_, (a_x.m.name, a_x.m.tagging, (TList.mk t_a_x1 a_x.m.names), (TList.mk t_a_x2 a_x.m.types), (Vh.mk v_a_x3 a_x.m.nodes.length)), a_x.e, a_x.p) : ((List GTok) × Int × (Str × Int × (TList Str) × (TList Int) × Vh) × Int × Int)), tokE t_a_x1, tokE t_a_x2, vecE v_a_x3 (a_x.m.nodes : List GNode)] (fun R H => ∃ u1 : Tok, ∃ u2 : Tok, ∃ u3 : Vt, R = oneOf [isv (r.1)] ∧ H = [boxE b_a_x ((r.2.l, r.2.at_, (r.2.m.name, r.2.m.tagging, (TList.mk u1 r.2.m.names), (TList.mk u2 r.2.m.types), (Vh.mk u3 r.2.m.nodes.length)), r.2.e, r.2.p)), tokE u1, tokE u2, vecE u3 (r.2.m.nodes)]) := by
  intro a_x a_s b_a_x t_a_x1 t_a_x2 v_a_x3 r h
  unfold r05_parser_is at h
  refine spec_intro Tryd.func22 rfl (by decide +kernel) (by rfl) fun w0 S0 hT => ?_
  refine w_seq ?_
  refine w_region ?_
  refine op_cons rfl (OpV.t (v_assign rfl) ?_)
  refine rl_nil ?_
  refine fin_nxt ?_
  refine w_seq ?_
  refine w_region ?_
  refine op_cons rfl (OpV.t (v_move rfl) ?_)
  refine cal_inv h fun y4 hy4 h => ?_
  refine op_cons rfl (t_call (r05_parser_now_w hy4) hT (.same rfl .nil) (.cons .here (.cons .here (.cons .here (.cons .here .nil)))) (fun R H' hR => ?_))
  obtain ⟨t5, t6, v7, rfl, rfl⟩ := hR
  refine op_cons rfl (t_alloc _ ze53 fun b8 => ?_)
  refine op_cons rfl (t_storeC (y' := (y4.1 : GTok)) ty53 rfl rfl (fun _ _ h => h) .here rfl ?_)
  refine rl_upd (upd_imm 5 .here rfl) ?_
  refine rl_nil ?_
  refine fin_nxt ?_
  refine w_seq ?_
  refine w_seq ?_
  refine w_region ?_
  refine op_cons rfl (OpV.t (v_move rfl) ?_)
  refine op_cons rfl (OpV.t (v_nilCheck rfl) ?_)
  refine op_cons rfl (OpV.t (v_fa rfl pt49_0_3 fd49_3) ?_)
  refine op_cons rfl (t_loadC (R := isv (y4.2.e)) ty27 rfl .here (fun _ _ h => h) ?_)
  refine op_cons rfl (OpV.t (v_eql rfl rfl) ?_)
  refine op_cons rfl (OpV.t (v_move rfl) ?_)
  refine rl_j (ι := Bool) (γ := Unit) (fun q9 g9 => [(22, isv (q9))]) (fun q9 g9 => []) .nil h 9 rfl (fun q9 g9 h => ?_) (fun J10 h hJ10 => ?_)
  · skip
    refine op_cons rfl (OpV.t (v_move rfl) ?_)
    refine rl_j (ι := Bool) (γ := Unit) (fun q15 g15 => [(28, isv (q15))]) (fun q15 g15 => []) .nil h 5 rfl (fun q15 g15 h => ?_) (fun J16 h hJ16 => ?_)
    · skip
      refine rl_nil ?_
      refine fin_nxt ?_
      refine w_condM h rfl (fun _ h => ?_) (fun _ h => ?_)
      · skip
        refine w_seq ?_
        refine w_region ?_
        refine op_cons rfl (OpV.t (v_move rfl) ?_)
        refine cal_inv h fun y18 hy18 h => ?_
        refine op_cons rfl (t_call (r05_parser_next_w hy18) hT (.same rfl .nil) (.cons .here (.cons .here (.cons .here (.cons .here .nil)))) (fun R H' hR => ?_))
        obtain ⟨t19, t20, v21, rfl, rfl⟩ := hR
        refine rl_nil ?_
        refine fin_nxt ?_
        refine w_seq ?_
        refine w_region ?_
        refine op_cons rfl (OpV.t (v_assign rfl) ?_)
        refine rl_nil ?_
        refine fin_nxt ?_
        refine w_ret ?_
        refine ret_nxt ?_
        refine ret_post (.tmp rfl .nil) (.cons .here (.cons .here (.cons .here (.cons .here .nil)))) ?_
        obtain rfl := Option.some.inj h
        exact ⟨t19, t20, v21, rfl, rfl⟩
      · skip
        refine w_skip ?_
        refine fin_nxt ?_
        refine w_seq ?_
        refine w_region ?_
        refine op_cons rfl (OpV.t (v_assign rfl) ?_)
        refine rl_nil ?_
        refine fin_nxt ?_
        refine w_ret ?_
        refine ret_post (.tmp rfl .nil) (.cons .here (.cons .here (.cons .here (.cons .here .nil)))) ?_
        obtain rfl := Option.some.inj h
        exact ⟨t5, t6, v7, rfl, rfl⟩
    · skip
      refine rl_condM (j := 23) h rfl (fun g17 h => ?_) (fun g17 h => ?_)
      · skip
        refine op_take rfl rfl (dj := 23) rfl g17 (OpV.t (v_fi rfl GTok.f1 fd53_1 rfl (z := y4.1.text)) ?_)
        refine op_take rfl rfl (dj := 23) rfl g17 (OpV.t (v_loadI ty9 rfl) ?_)
        refine op_take rfl rfl (dj := 23) rfl g17 (OpV.t (v_move rfl) ?_)
        refine op_take rfl rfl (dj := 23) rfl g17 (OpV.t (v_eqA eq9 rfl rfl) ?_)
        refine op_cons rfl (OpV.t (v_pick_t rfl g17 rfl) ?_)
        exact hJ16 _ () h _ (join_imp 5 rfl rfl (mod_cons (j := 28) rfl (fun _ _ h => h) mod_nil) (.cons .here (.cons .here (.cons .here (.cons .here .nil)))))
      · skip
        refine op_pass rfl (dj := 23) rfl g17 ?_
        refine op_pass rfl (dj := 23) rfl g17 ?_
        refine op_pass rfl (dj := 23) rfl g17 ?_
        refine op_pass rfl (dj := 23) rfl g17 ?_
        refine op_cons rfl (OpV.t (v_pick_f rfl g17 rfl) ?_)
        exact hJ16 _ () h _ (join_imp 5 rfl rfl (mod_cons (j := 28) rfl (fun _ _ h => h) mod_nil) (.cons .here (.cons .here (.cons .here (.cons .here .nil)))))
  · skip
    refine rl_condM (j := 13) h rfl (fun g11 h => ?_) (fun g11 h => ?_)
    · skip
      refine op_take rfl rfl (dj := 13) rfl g11 (OpV.t (v_fi rfl GTok.f0 fd53_0 rfl (z := y4.1.kind)) ?_)
      refine op_take rfl rfl (dj := 13) rfl g11 (OpV.t (v_loadI ty3 rfl) ?_)
      refine op_take rfl rfl (dj := 13) rfl g11 (OpV.t (v_eql rfl rfl) ?_)
      refine op_take rfl rfl (dj := 13) rfl g11 (OpV.t (v_move rfl) ?_)
      refine rl_j (ι := Bool) (γ := Unit) (fun q12 g12 => [(21, isv (q12))]) (fun q12 g12 => []) .nil h 4 rfl (fun q12 g12 h => ?_) (fun J13 h hJ13 => ?_)
      · skip
        refine op_cons rfl (OpV.t (v_pick_t rfl g11 rfl) ?_)
        exact hJ10 _ () h _ (join_imp 6 rfl rfl (mod_cons (j := 22) rfl (fun _ _ h => h) mod_nil) (.cons .here (.cons .here (.cons .here (.cons .here .nil)))))
      · skip
        refine rl_condM (j := 17) h rfl (fun g14 h => ?_) (fun g14 h => ?_)
        · skip
          refine op_pass rfl (dj := 17) rfl g14 ?_
          refine op_pass rfl (dj := 17) rfl g14 ?_
          refine op_pass rfl (dj := 17) rfl g14 ?_
          refine op_take rfl rfl (dj := 13) rfl g11 (OpV.t (v_pick_t rfl g14 rfl) ?_)
          exact hJ13 _ () h _ (join_imp 4 rfl rfl (mod_cons (j := 21) rfl (fun _ _ h => h) mod_nil) (.cons .here (.cons .here (.cons .here (.cons .here .nil)))))
        · skip
          refine op_take rfl rfl (dj := 17) rfl g14 (OpV.t (v_fi rfl GTok.f0 fd53_0 rfl (z := y4.1.kind)) ?_)
          refine op_take rfl rfl (dj := 17) rfl g14 (OpV.t (v_loadI ty3 rfl) ?_)
          refine op_take rfl rfl (dj := 17) rfl g14 (OpV.t (v_eql rfl rfl) ?_)
          refine op_take rfl rfl (dj := 13) rfl g11 (OpV.t (v_pick_f rfl g14 rfl) ?_)
          exact hJ13 _ () h _ (join_imp 4 rfl rfl (mod_cons (j := 21) rfl (fun _ _ h => h) mod_nil) (.cons .here (.cons .here (.cons .here (.cons .here .nil)))))
    · skip
      refine op_pass rfl (dj := 13) rfl g11 ?_
      refine op_pass rfl (dj := 13) rfl g11 ?_
      refine op_pass rfl (dj := 13) rfl g11 ?_
      refine op_pass rfl (dj := 13) rfl g11 ?_
      refine op_passU rfl (dj := 17) rfl ?_
      refine op_passU rfl (dj := 17) rfl ?_
      refine op_passU rfl (dj := 17) rfl ?_
      refine op_pass rfl (dj := 13) rfl g11 ?_
      refine op_cons rfl (OpV.t (v_pick_f rfl g11 rfl) ?_)
      exact hJ10 _ () h _ (join_imp 9 rfl rfl (mod_cons (j := 22) rfl (fun _ _ h => h) mod_nil) (.cons .here (.cons .here (.cons .here (.cons .here .nil)))))


theorem r05_parser_must_w : ∀ {a_x : GPar} {a_s : Str} {b_a_x : Nat} {t_a_x1 : Tok} {t_a_x2 : Tok} {v_a_x3 : Vt} {r : GPar}, r05_parser_must a_x a_s = some r → Ctr Tryd.prog 21 [ptrv b_a_x (Fld.id ((List GTok) × Int × (Str × Int × (TList Str) × (TList Int) × Vh) × Int × Int)), isv (a_s)] [boxE b_a_x ((a_x.l, a_x.at_, (a_x.m.name, a_x.m.tagging, (TList.mk t_a_x1 a_x.m.names), (TList.mk t_a_x2 a_x.m.types), (Vh.mk v_a_x3 a_x.m.nodes.length)), a_x.e, a_x.p) : ((List GTok) × Int × (Str × Int × (TList Str) × (TList Int) × Vh) × Int × Int)), tokE t_a_x1, tokE t_a_x2, vecE v_a_x3 (a_x.m.nodes : List GNode)] (fun R H => ∃ u1 : Tok, ∃ u2 : Tok, ∃ u3 : Vt, R = oneOf [] ∧ H = [boxE b_a_x ((r.l, r.at_, (r.m.name, r.m.tagging, (TList.mk u1 r.m.names), (TList.mk u2 r.m.types), (Vh.mk u3 r.m.nodes.length)), r.e, r.p)), tokE u1, tokE u2, vecE u3 (r.m.nodes)]) := by
  intro a_x a_s b_a_x t_a_x1 t_a_x2 v_a_x3 r h
  unfold r05_parser_must at h
  refine spec_intro Tryd.func21 rfl (by decide +kernel) (by rfl) fun w0 S0 hT => ?_
  refine w_seq ?_
  refine w_region ?_
  refine op_cons rfl (OpV.t (v_move rfl) ?_)
  refine op_cons rfl (OpV.t (v_nilCheck rfl) ?_)
  refine op_cons rfl (OpV.t (v_fa rfl pt49_0_3 fd49_3) ?_)
  refine op_cons rfl (t_loadC (R := isv (a_x.e)) ty27 rfl .here (fun _ _ h => h) ?_)
  refine op_cons rfl (OpV.t (v_eql rfl rfl) ?_)
  refine op_cons rfl (OpV.t (v_move rfl) ?_)
  refine rl_j (ι := Bool × GPar) (γ := Tok × Tok × Vt) (fun q4 g4 => [(14, isv (q4.1))]) (fun q4 g4 => [boxE b_a_x ((q4.2.l, q4.2.at_, (q4.2.m.name, q4.2.m.tagging, (TList.mk g4.1 q4.2.m.names), (TList.mk g4.2.1 q4.2.m.types), (Vh.mk g4.2.2 q4.2.m.nodes.length)), q4.2.e, q4.2.p) : ((List GTok) × Int × (Str × Int × (TList Str) × (TList Int) × Vh) × Int × Int)), tokE g4.1, tokE g4.2.1, vecE g4.2.2 (q4.2.m.nodes : List GNode)]) (.cons .here (.cons .here (.cons .here (.cons .here .nil)))) h 5 rfl (fun q4 g4 h => ?_) (fun J5 h hJ5 => ?_)
  · skip
    refine rl_nil ?_
    refine fin_nxt ?_
    refine w_condM h rfl (fun _ h => ?_) (fun _ h => ?_)
    · skip
      refine w_region ?_
      refine op_cons rfl (OpV.t (v_move rfl) ?_)
      refine op_cons rfl (OpV.t (v_move rfl) ?_)
      refine cal_inv h fun y11 hy11 h => ?_
      refine op_cons rfl (t_call (r05_parser_now_w hy11) hT (.same rfl .nil) (.cons .here (.cons .here (.cons .here (.cons .here .nil)))) (fun R H' hR => ?_))
      obtain ⟨t12, t13, v14, rfl, rfl⟩ := hR
      refine cal_inv h fun y15 hy15 h => ?_
      refine op_cons rfl (t_call (r05_parser_fail_w hy15) hT (.same rfl (.same rfl (.same rfl .nil))) (.cons .here (.cons .here (.cons .here (.cons .here .nil)))) (fun R H' hR => ?_))
      obtain ⟨t16, t17, v18, rfl, rfl⟩ := hR
      refine rl_nil ?_
      refine fin_post .nil (.cons .here (.cons .here (.cons .here (.cons .here .nil)))) ?_
      obtain rfl := Option.some.inj h
      exact ⟨t16, t17, v18, rfl, rfl⟩
    · skip
      refine w_skip ?_
      refine fin_post .nil (.cons .here (.cons .here (.cons .here (.cons .here .nil)))) ?_
      obtain rfl := Option.some.inj h
      exact ⟨g4.1, g4.2.1, g4.2.2, rfl, rfl⟩
  · skip
    refine rl_condM (j := 9) h rfl (fun g6 h => ?_) (fun g6 h => ?_)
    · skip
      refine op_take rfl rfl (dj := 9) rfl g6 (OpV.t (v_move rfl) ?_)
      refine op_take rfl rfl (dj := 9) rfl g6 (OpV.t (v_move rfl) ?_)
      refine cal_inv h fun y7 hy7 h => ?_
      refine op_take rfl rfl (dj := 9) rfl g6 (t_call (r05_parser_is_w hy7) hT (.same rfl (.same rfl .nil)) (.cons .here (.cons .here (.cons .here (.cons .here .nil)))) (fun R H' hR => ?_))
      obtain ⟨t8, t9, v10, rfl, rfl⟩ := hR
      refine op_take rfl rfl (dj := 9) rfl g6 (OpV.t (v_not rfl) ?_)
      refine op_cons rfl (OpV.t (v_pick_t rfl g6 rfl) ?_)
      exact hJ5 _ (t8, t9, v10) h _ (join_imp 5 rfl rfl (mod_cons (j := 14) rfl (fun _ _ h => h) mod_nil) (.cons .here (.cons .here (.cons .here (.cons .here .nil)))))
    · skip
      refine op_pass rfl (dj := 9) rfl g6 ?_
      refine op_pass rfl (dj := 9) rfl g6 ?_
      refine op_pass rfl (dj := 9) rfl g6 ?_
      refine op_pass rfl (dj := 9) rfl g6 ?_
      refine op_cons rfl (OpV.t (v_pick_f rfl g6 rfl) ?_)
      exact hJ5 _ (t_a_x1, t_a_x2, v_a_x3) h _ (join_imp 5 rfl rfl (mod_cons (j := 14) rfl (fun _ _ h => h) mod_nil) (.cons .here (.cons .here (.cons .here (.cons .here .nil)))))


theorem r05_begins_w : ∀ {a_t : GTok} {r : Bool}, r05_begins a_t = some r → Ctr Tryd.prog 41 [isv (a_t)] [] (fun R H => R = oneOf [isv (r)] ∧ H = []) := by
  intro a_t r h
  unfold r05_begins at h
  refine spec_intro Tryd.func41 rfl (by decide +kernel) (by rfl) fun w0 S0 hT => ?_
  refine w_seq ?_
  refine w_region ?_
  refine op_cons rfl (t_boxIC (y := a_t) rfl (fun _ _ h => h) ?_)
  refine op_cons rfl (OpV.t (v_assign rfl) ?_)
  refine rl_nil ?_
  refine fin_nxt ?_
  refine w_seq ?_
  refine w_region ?_
  refine op_cons rfl (t_buildSlice (l := ([(Str.mk [91]), (Str.mk [66, 79, 79, 76, 69, 65, 78]), (Str.mk [78, 85, 76, 76]), (Str.mk [85, 84, 70, 56, 83, 116, 114, 105, 110, 103]), (Str.mk [73, 78, 84, 69, 71, 69, 82]), (Str.mk [79, 67, 84, 69, 84]), (Str.mk [69, 78, 85, 77, 69, 82, 65, 84, 69, 68]), (Str.mk [83, 69, 84]), (Str.mk [67, 72, 79, 73, 67, 69]), (Str.mk [83, 69, 81, 85, 69, 78, 67, 69])] : (List Str))) el22 (.cons rfl (fun _ _ h => h) (.cons rfl (fun _ _ h => h) (.cons rfl (fun _ _ h => h) (.cons rfl (fun _ _ h => h) (.cons rfl (fun _ _ h => h) (.cons rfl (fun _ _ h => h) (.cons rfl (fun _ _ h => h) (.cons rfl (fun _ _ h => h) (.cons rfl (fun _ _ h => h) (.cons rfl (fun _ _ h => h) .nil)))))))))) rfl rfl ?_)
  refine op_cons rfl (OpV.t (v_assign rfl) ?_)
  refine rl_nil ?_
  refine fin_nxt ?_
  refine w_seq ?_
  refine w_seq ?_
  refine w_region ?_
  refine op_cons rfl (OpV.t (v_assign rfl) ?_)
  refine rl_nil ?_
  refine fin_nxt ?_
  refine w_block ?_
  refine w_lp (ι := Int) (γ := Unit) (fun q2 g2 => [(4, isv (q2))]) (fun q2 g2 => []) h () (mod_cons (j := 4) rfl (fun _ _ h => h) mod_nil) .nil (fun L3 q2 g2 Q20 h hL3 eL3 rL3 => ?_)
  refine w_seq ?_
  refine w_seq ?_
  refine w_region ?_
  refine op_cons rfl (OpV.t (v_move rfl) ?_)
  refine op_cons rfl (OpV.t (v_move rfl) ?_)
  refine op_cons rfl (OpV.t (v_ln (l := ([(Str.mk [91]), (Str.mk [66, 79, 79, 76, 69, 65, 78]), (Str.mk [78, 85, 76, 76]), (Str.mk [85, 84, 70, 56, 83, 116, 114, 105, 110, 103]), (Str.mk [73, 78, 84, 69, 71, 69, 82]), (Str.mk [79, 67, 84, 69, 84]), (Str.mk [69, 78, 85, 77, 69, 82, 65, 84, 69, 68]), (Str.mk [83, 69, 84]), (Str.mk [67, 72, 79, 73, 67, 69]), (Str.mk [83, 69, 81, 85, 69, 78, 67, 69])] : (List Str))) rfl appv_isv sl22) ?_)
  refine op_cons rfl (OpV.t (v_lss rfl rfl) ?_)
  refine rl_nil ?_
  refine fin_nxt ?_
  refine w_condM h rfl (fun _ h => ?_) (fun _ h => ?_)
  · skip
    refine w_skip ?_
    refine fin_nxt ?_
    refine w_seq ?_
    refine w_block ?_
    refine w_seq ?_
    refine w_regionD (.v 0 (.v 1 (.v 2 (.v 3 (.v 4 (.v 5 (.v 6 (.v 7 (.v 8 (.v 9 (.v 10 (.v 11 (.v 12 (.v 13 (.v 14 (.v 15 (.v 16 .nil))))))))))))))))) moOrd (by kernel_rfl) ?_
    refine rd_v rfl (v_move rfl) ?_
    refine rd_v rfl (v_move rfl) ?_
    refine cal_inv h fun y12 hy12 h => ?_
    refine rd_v rfl (v_ix (l := ([(Str.mk [91]), (Str.mk [66, 79, 79, 76, 69, 65, 78]), (Str.mk [78, 85, 76, 76]), (Str.mk [85, 84, 70, 56, 83, 116, 114, 105, 110, 103]), (Str.mk [73, 78, 84, 69, 71, 69, 82]), (Str.mk [79, 67, 84, 69, 84]), (Str.mk [69, 78, 85, 77, 69, 82, 65, 84, 69, 68]), (Str.mk [83, 69, 84]), (Str.mk [67, 72, 79, 73, 67, 69]), (Str.mk [83, 69, 81, 85, 69, 78, 67, 69])] : (List Str))) rfl appv_isv rfl sl22 hy12) ?_
    refine rd_v rfl (v_loadI ty9 rfl) ?_
    refine rd_v rfl (v_fi rfl GTok.f1 fd53_1 rfl (z := a_t.text)) ?_
    refine rd_v rfl (v_loadI ty9 rfl) ?_
    refine rd_v rfl (v_eqA eq9 rfl rfl) ?_
    refine rd_v rfl (v_move rfl) ?_
    refine rd_j (ι := Bool) (γ := Unit) (fun q13 g13 => [(28, isv (q13))]) (fun q13 g13 => []) .nil h 9 rfl (fun q13 g13 h => ?_) (fun J14 h hJ14 => ?_)
    · skip
      refine rd_nil ?_
      refine fin_nxt ?_
      refine w_condM h rfl (fun _ h => ?_) (fun _ h => ?_)
      · skip
        refine w_seq ?_
        refine w_region ?_
        refine op_cons rfl (OpV.t (v_assign rfl) ?_)
        refine rl_nil ?_
        refine fin_nxt ?_
        refine w_ret ?_
        refine ret_block ?_
        refine ret_nxt ?_
        refine rL3 _ ?_
        refine ret_block ?_
        refine ret_nxt ?_
        refine ret_post (.tmp rfl .nil) .nil ?_
        obtain rfl := Option.some.inj h
        exact ⟨rfl, rfl⟩
      · skip
        refine w_skip ?_
        refine fin_block ?_
        refine fin_nxt ?_
        refine w_region ?_
        refine op_cons rfl (OpV.t (v_move rfl) ?_)
        refine ck_inv h fun q19 h => ?_
        refine op_cons rfl (OpV.t (v_add rfl rfl q19) ?_)
        refine op_cons rfl (OpV.t (v_assign rfl) ?_)
        refine rl_nil ?_
        exact hL3 _ () h _ (join_imp 17 rfl rfl (mod_cons (j := 4) rfl (fun _ _ h => h) mod_nil) .nil)
    · skip
      refine rd_condM (j := 19) h rfl (fun g15 h => ?_) (fun g15 h => ?_)
      · skip
        refine rd_vt rfl rfl (dj := 19) rfl g15 (v_fi rfl GTok.f0 fd53_0 rfl (z := a_t.kind)) ?_
        refine rd_vt rfl rfl (dj := 19) rfl g15 (v_loadI ty3 rfl) ?_
        refine rd_vt rfl rfl (dj := 19) rfl g15 (v_eql rfl rfl) ?_
        refine rd_vt rfl rfl (dj := 19) rfl g15 (v_move rfl) ?_
        refine rd_j (ι := Bool) (γ := Unit) (fun q16 g16 => [(27, isv (q16))]) (fun q16 g16 => []) .nil h 4 rfl (fun q16 g16 h => ?_) (fun J17 h hJ17 => ?_)
        · skip
          refine rd_v rfl (v_pick_t rfl g15 rfl) ?_
          exact hJ14 _ () h _ (join_imp 6 rfl rfl (mod_cons (j := 28) rfl (fun _ _ h => h) mod_nil) .nil)
        · skip
          refine rd_condM (j := 23) h rfl (fun g18 h => ?_) (fun g18 h => ?_)
          · skip
            refine rd_passV rfl rfl (dj := 23) rfl g18 ?_
            refine rd_passV rfl rfl (dj := 23) rfl g18 ?_
            refine rd_passV rfl rfl (dj := 23) rfl g18 ?_
            refine rd_vt rfl rfl (dj := 19) rfl g15 (v_pick_t rfl g18 rfl) ?_
            exact hJ17 _ () h _ (join_imp 4 rfl rfl (mod_cons (j := 27) rfl (fun _ _ h => h) mod_nil) .nil)
          · skip
            refine rd_vt rfl rfl (dj := 23) rfl g18 (v_fi rfl GTok.f0 fd53_0 rfl (z := a_t.kind)) ?_
            refine rd_vt rfl rfl (dj := 23) rfl g18 (v_loadI ty3 rfl) ?_
            refine rd_vt rfl rfl (dj := 23) rfl g18 (v_eql rfl rfl) ?_
            refine rd_vt rfl rfl (dj := 19) rfl g15 (v_pick_f rfl g18 rfl) ?_
            exact hJ17 _ () h _ (join_imp 4 rfl rfl (mod_cons (j := 27) rfl (fun _ _ h => h) mod_nil) .nil)
      · skip
        refine rd_passV rfl rfl (dj := 19) rfl g15 ?_
        refine rd_passV rfl rfl (dj := 19) rfl g15 ?_
        refine rd_passV rfl rfl (dj := 19) rfl g15 ?_
        refine rd_passV rfl rfl (dj := 19) rfl g15 ?_
        refine rd_passUV rfl rfl (dj := 23) rfl ?_
        refine rd_passUV rfl rfl (dj := 23) rfl ?_
        refine rd_passUV rfl rfl (dj := 23) rfl ?_
        refine rd_passV rfl rfl (dj := 19) rfl g15 ?_
        refine rd_v rfl (v_pick_f rfl g15 rfl) ?_
        exact hJ14 _ () h _ (join_imp 9 rfl rfl (mod_cons (j := 28) rfl (fun _ _ h => h) mod_nil) .nil)
  · skip
    refine w_exit ?_
    refine exi_nxt ?_
    refine eL3 _ _ ?_
    refine exi_block ?_
    refine fin_nxt ?_
    refine w_seq ?_
    refine w_region ?_
    refine op_cons rfl (OpV.t (v_fi rfl GTok.f0 fd53_0 rfl (z := a_t.kind)) ?_)
    refine op_cons rfl (OpV.t (v_loadI ty3 rfl) ?_)
    refine op_cons rfl (OpV.t (v_eql rfl rfl) ?_)
    refine op_cons rfl (OpV.t (v_assign rfl) ?_)
    refine rl_nil ?_
    refine fin_nxt ?_
    refine w_ret ?_
    refine ret_post (.tmp rfl .nil) .nil ?_
    obtain rfl := Option.some.inj h
    exact ⟨rfl, rfl⟩


theorem r05_Whole_w : ∀ {a_s : Str} {r : Int}, r05_Whole a_s = some r → Ctr Tryd.prog 60 [isv (a_s)] [] (fun R H => R = oneOf [isv (r)] ∧ H = []) := by
  intro a_s r h
  unfold r05_Whole at h
  refine spec_intro Tryd.func60 rfl (by decide +kernel) (by rfl) fun w0 S0 hT => ?_
  refine w_seq ?_
  refine w_region ?_
  refine op_cons rfl (OpV.t (v_assign rfl) ?_)
  refine rl_nil ?_
  refine fin_nxt ?_
  refine w_seq ?_
  refine w_region ?_
  refine op_cons rfl (OpV.t (v_move rfl) ?_)
  refine cal_inv h fun y1 hy1 h => ?_
  refine op_cons rfl (OpV.t (v_idxS y1 st9 rfl rfl hy1) ?_)
  refine op_cons rfl (OpV.t (v_eqA eq5 rfl rfl) ?_)
  refine op_cons rfl (OpV.t (v_assign rfl) ?_)
  refine rl_nil ?_
  refine fin_nxt ?_
  refine w_seq ?_
  refine w_seq ?_
  refine w_region ?_
  refine op_cons rfl (OpV.t (v_move rfl) ?_)
  refine rl_nil ?_
  refine fin_nxt ?_
  refine w_J (ι := Str) (γ := Unit) (fun q2 g2 => [(0, isv (q2))]) (fun q2 g2 => []) .nil h (fun q2 g2 h => ?_) (fun J3 h hJ3 => ?_)
  · skip
    refine w_seq ?_
    refine w_region ?_
    refine op_cons rfl (OpV.t (v_assign rfl) ?_)
    refine rl_nil ?_
    refine fin_nxt ?_
    refine w_seq ?_
    refine w_seq ?_
    refine w_region ?_
    refine op_cons rfl (OpV.t (v_assign rfl) ?_)
    refine rl_nil ?_
    refine fin_nxt ?_
    refine w_block ?_
    refine w_lp (ι := UInt64 × Int) (γ := Unit) (fun q5 g5 => [(4, isv (q5.1)), (5, isv (q5.2))]) (fun q5 g5 => []) h () (mod_cons (j := 4) rfl (fun _ _ h => h) (mod_cons (j := 5) rfl (fun _ _ h => h) mod_nil)) .nil (fun L6 q5 g5 Q19 h hL6 eL6 rL6 => ?_)
    refine w_seq ?_
    refine w_seq ?_
    refine w_region ?_
    refine op_cons rfl (OpV.t (v_move rfl) ?_)
    refine op_cons rfl (OpV.t (v_move rfl) ?_)
    refine op_cons rfl (OpV.t (v_lenS st9 rfl) ?_)
    refine op_cons rfl (OpV.t (v_lss rfl rfl) ?_)
    refine rl_nil ?_
    refine fin_nxt ?_
    refine w_condM h rfl (fun _ h => ?_) (fun _ h => ?_)
    · skip
      refine w_skip ?_
      refine fin_nxt ?_
      refine w_seq ?_
      refine w_block ?_
      refine w_region ?_
      refine op_cons rfl (OpV.t (v_move rfl) ?_)
      refine op_cons rfl (OpV.t (v_mul64 rfl rfl) ?_)
      refine op_cons rfl (OpV.t (v_move rfl) ?_)
      refine op_cons rfl (OpV.t (v_move rfl) ?_)
      refine cal_inv h fun y13 hy13 h => ?_
      refine op_cons rfl (OpV.t (v_idxS y13 st9 rfl rfl hy13) ?_)
      refine op_cons rfl (OpV.t (v_sub8 rfl rfl) ?_)
      refine op_cons rfl (OpV.t (v_u8u64 Tryd.underlying5 Tryd.underlying41 rfl) ?_)
      refine op_cons rfl (OpV.t (v_add64 rfl rfl) ?_)
      refine op_cons rfl (OpV.t (v_assign rfl) ?_)
      refine rl_nil ?_
      refine fin_block ?_
      refine fin_nxt ?_
      refine w_region ?_
      refine op_cons rfl (OpV.t (v_move rfl) ?_)
      refine ck_inv h fun q14 h => ?_
      refine op_cons rfl (OpV.t (v_add rfl rfl q14) ?_)
      refine op_cons rfl (OpV.t (v_assign rfl) ?_)
      refine rl_nil ?_
      exact hL6 _ () h _ (join_imp 18 rfl rfl (mod_cons (j := 4) rfl (fun _ _ h => h) (mod_cons (j := 5) rfl (fun _ _ h => h) mod_nil)) .nil)
    · skip
      refine w_exit ?_
      refine exi_nxt ?_
      refine eL6 _ _ ?_
      refine exi_block ?_
      refine fin_nxt ?_
      refine w_seq ?_
      refine w_seq ?_
      refine w_region ?_
      refine op_cons rfl (OpV.t (v_move rfl) ?_)
      refine rl_nil ?_
      refine fin_nxt ?_
      refine w_condM h rfl (fun _ h => ?_) (fun _ h => ?_)
      · skip
        refine w_seq ?_
        refine w_region ?_
        refine op_cons rfl (OpV.t (v_move rfl) ?_)
        refine op_cons rfl (OpV.t (v_sub64 rfl rfl) ?_)
        refine ck_inv h fun q15 h => ?_
        refine op_cons rfl (OpV.t (v_u64i Tryd.underlying41 Tryd.underlying2 rfl q15) ?_)
        refine ck_inv h fun q16 h => ?_
        refine op_cons rfl (OpV.t (v_neg rfl q16) ?_)
        refine ck_inv h fun q17 h => ?_
        refine op_cons rfl (OpV.t (v_sub rfl rfl q17) ?_)
        refine op_cons rfl (OpV.t (v_assign rfl) ?_)
        refine rl_nil ?_
        refine fin_nxt ?_
        refine w_ret ?_
        refine ret_nxt ?_
        refine ret_post (.tmp rfl .nil) .nil ?_
        obtain rfl := Option.some.inj h
        exact ⟨rfl, rfl⟩
      · skip
        refine w_skip ?_
        refine fin_nxt ?_
        refine w_seq ?_
        refine w_region ?_
        refine op_cons rfl (OpV.t (v_move rfl) ?_)
        refine ck_inv h fun q18 h => ?_
        refine op_cons rfl (OpV.t (v_u64i Tryd.underlying41 Tryd.underlying2 rfl q18) ?_)
        refine op_cons rfl (OpV.t (v_assign rfl) ?_)
        refine rl_nil ?_
        refine fin_nxt ?_
        refine w_ret ?_
        refine ret_post (.tmp rfl .nil) .nil ?_
        obtain rfl := Option.some.inj h
        exact ⟨rfl, rfl⟩
  · skip
    refine w_condM h rfl (fun _ h => ?_) (fun _ h => ?_)
    · skip
      refine w_region ?_
      refine op_cons rfl (OpV.t (v_move rfl) ?_)
      refine asd_inv h fun q4 h => ?_
      refine op_cons rfl (OpV.t (v_slS st9 rfl (.inr ⟨_, rfl, rfl⟩) (.inl ⟨rfl, rfl⟩) q4.1 q4.2.1 q4.2.2) ?_)
      refine op_cons rfl (OpV.t (v_assign rfl) ?_)
      refine rl_nil ?_
      exact hJ3 _ () h _ (join_imp 3 rfl rfl (mod_cons (j := 0) rfl (fun _ _ h => h) mod_nil) .nil)
    · skip
      refine w_skip ?_
      exact hJ3 _ () h _ (join_imp 0 rfl rfl (mod_cons (j := 0) rfl (fun _ _ h => h) mod_nil) .nil)


theorem r05_parser_number_w : ∀ {a_x : GPar} {b_a_x : Nat} {t_a_x1 : Tok} {t_a_x2 : Tok} {v_a_x3 : Vt} {r : Int × GPar}, r05_parser_number a_x = some r → Ctr Tryd.prog 42 [ptrv b_a_x (Fld.id ((List GTok) × Int × (Str × Int × (TList Str) × (TList Int) × Vh) × Int × Int))] [boxE b_a_x ((a_x.l, a_x.at_, (a_x.m.name, a_x.m.tagging, (TList.mk t_a_x1 a_x.m.names), (TList.mk t_a_x2 a_x.m.types), (Vh.mk v_a_x3 a_x.m.nodes.length)), a_x.e, a_x.p) : ((List GTok) × Int × (Str × Int × (TList Str) × (TList Int) × Vh) × Int × Int)), tokE t_a_x1, tokE t_a_x2, vecE v_a_x3 (a_x.m.nodes : List GNode)] (fun R H => ∃ u1 : Tok, ∃ u2 : Tok, ∃ u3 : Vt, R = oneOf [isv (r.1)] ∧ H = [boxE b_a_x ((r.2.l, r.2.at_, (r.2.m.name, r.2.m.tagging, (TList.mk u1 r.2.m.names), (TList.mk u2 r.2.m.types), (Vh.mk u3 r.2.m.nodes.length)), r.2.e, r.2.p)), tokE u1, tokE u2, vecE u3 (r.2.m.nodes)]) := by
  intro a_x b_a_x t_a_x1 t_a_x2 v_a_x3 r h
  unfold r05_parser_number at h
  refine spec_intro Tryd.func42 rfl (by decide +kernel) (by rfl) fun w0 S0 hT => ?_
  refine w_seq ?_
  refine w_region ?_
  refine op_cons rfl (OpV.t (v_assign rfl) ?_)
  refine rl_nil ?_
  refine fin_nxt ?_
  refine w_seq ?_
  refine w_region ?_
  refine op_cons rfl (OpV.t (v_move rfl) ?_)
  refine cal_inv h fun y4 hy4 h => ?_
  refine op_cons rfl (t_call (r05_parser_kind_w hy4) hT (.same rfl (.same rfl .nil)) (.cons .here (.cons .here (.cons .here (.cons .here .nil)))) (fun R H' hR => ?_))
  obtain ⟨t5, t6, v7, rfl, rfl⟩ := hR
  refine op_cons rfl (OpV.t (v_assign rfl) ?_)
  refine rl_nil ?_
  refine fin_nxt ?_
  refine w_seq ?_
  refine w_seq ?_
  refine w_region ?_
  refine op_cons rfl (OpV.t (v_move rfl) ?_)
  refine op_cons rfl (OpV.t (v_eqA eq9 rfl rfl) ?_)
  refine rl_nil ?_
  refine fin_nxt ?_
  refine w_condM h rfl (fun _ h => ?_) (fun _ h => ?_)
  · skip
    refine w_seq ?_
    refine w_region ?_
    refine op_cons rfl (OpV.t (v_assign rfl) ?_)
    refine rl_nil ?_
    refine fin_nxt ?_
    refine w_ret ?_
    refine ret_nxt ?_
    refine ret_post (.tmp rfl .nil) (.cons .here (.cons .here (.cons .here (.cons .here .nil)))) ?_
    obtain rfl := Option.some.inj h
    exact ⟨t5, t6, v7, rfl, rfl⟩
  · skip
    refine w_skip ?_
    refine fin_nxt ?_
    refine w_seq ?_
    refine w_region ?_
    refine op_cons rfl (OpV.t (v_move rfl) ?_)
    refine cal_inv h fun y8 hy8 h => ?_
    refine op_cons rfl (t_call (r05_Whole_w hy8) hT (.same rfl .nil) .nil (fun R H' hR => ?_))
    obtain ⟨rfl, rfl⟩ := hR
    refine op_cons rfl (OpV.t (v_assign rfl) ?_)
    refine rl_nil ?_
    refine fin_nxt ?_
    refine w_ret ?_
    refine ret_post (.tmp rfl .nil) (.cons .here (.cons .here (.cons .here (.cons .here .nil)))) ?_
    obtain rfl := Option.some.inj h
    exact ⟨t5, t6, v7, rfl, rfl⟩


theorem r05_parser_bounds_w : ∀ {a_x : GPar} {b_a_x : Nat} {t_a_x1 : Tok} {t_a_x2 : Tok} {v_a_x3 : Vt} {r : GCon × GPar}, r05_parser_bounds a_x = some r → Ctr Tryd.prog 62 [ptrv b_a_x (Fld.id ((List GTok) × Int × (Str × Int × (TList Str) × (TList Int) × Vh) × Int × Int))] [boxE b_a_x ((a_x.l, a_x.at_, (a_x.m.name, a_x.m.tagging, (TList.mk t_a_x1 a_x.m.names), (TList.mk t_a_x2 a_x.m.types), (Vh.mk v_a_x3 a_x.m.nodes.length)), a_x.e, a_x.p) : ((List GTok) × Int × (Str × Int × (TList Str) × (TList Int) × Vh) × Int × Int)), tokE t_a_x1, tokE t_a_x2, vecE v_a_x3 (a_x.m.nodes : List GNode)] (fun R H => ∃ u1 : Tok, ∃ u2 : Tok, ∃ u3 : Vt, R = oneOf [isv (r.1)] ∧ H = [boxE b_a_x ((r.2.l, r.2.at_, (r.2.m.name, r.2.m.tagging, (TList.mk u1 r.2.m.names), (TList.mk u2 r.2.m.types), (Vh.mk u3 r.2.m.nodes.length)), r.2.e, r.2.p)), tokE u1, tokE u2, vecE u3 (r.2.m.nodes)]) := by
  intro a_x b_a_x t_a_x1 t_a_x2 v_a_x3 r h
  unfold r05_parser_bounds at h
  refine spec_intro Tryd.func62 rfl (by decide +kernel) (by rfl) fun w0 S0 hT => ?_
  refine w_seq ?_
  refine w_region ?_
  refine op_cons rfl (t_alloc _ ze79 fun b4 => ?_)
  refine rl_nil ?_
  refine fin_nxt ?_
  refine w_seq ?_
  refine w_region ?_
  refine op_cons rfl (OpV.t (v_build (z := (GCon.mk true false false false (0 : Int) (0 : Int))) rfl bu79 ze79 (.cons GCon.f0 fd79_0 rfl (fun _ _ h => h) .nil)) ?_)
  refine op_cons rfl (t_alloc _ ze79 fun b5 => ?_)
  refine op_cons rfl (t_storeC (y' := ((GCon.mk true false false false (0 : Int) (0 : Int)) : GCon)) ty79 rfl rfl (fun _ _ h => h) .here rfl ?_)
  refine rl_nil ?_
  refine fin_nxt ?_
  refine w_seq ?_
  refine w_seq ?_
  refine w_region ?_
  refine op_cons rfl (OpV.t (v_move rfl) ?_)
  refine cal_inv h fun y6 hy6 h => ?_
  refine op_cons rfl (t_call (r05_parser_is_w hy6) hT (.same rfl (.same rfl .nil)) (.cons (.there (.there .here)) (.cons (.there (.there .here)) (.cons (.there (.there .here)) (.cons (.there (.there .here)) .nil)))) (fun R H' hR => ?_))
  obtain ⟨t7, t8, v9, rfl, rfl⟩ := hR
  refine op_cons rfl (OpV.t (v_not rfl) ?_)
  refine rl_nil ?_
  refine fin_nxt ?_
  refine w_J (ι := GPar × GCon) (γ := Tok × Tok × Vt) (fun q10 g10 => []) (fun q10 g10 => [boxE b_a_x ((q10.1.l, q10.1.at_, (q10.1.m.name, q10.1.m.tagging, (TList.mk g10.1 q10.1.m.names), (TList.mk g10.2.1 q10.1.m.types), (Vh.mk g10.2.2 q10.1.m.nodes.length)), q10.1.e, q10.1.p) : ((List GTok) × Int × (Str × Int × (TList Str) × (TList Int) × Vh) × Int × Int)), tokE g10.1, tokE g10.2.1, vecE g10.2.2 (q10.1.m.nodes : List GNode), boxE b5 (q10.2 : GCon)]) (.cons .here (.cons (.there (.there (.there .here))) (.cons .here (.cons .here (.cons .here .nil))))) h (fun q10 g10 h => ?_) (fun J11 h hJ11 => ?_)
  · skip
    refine w_seq ?_
    refine w_J (ι := GPar × GCon) (γ := Tok × Tok × Vt) (fun q16 g16 => []) (fun q16 g16 => [boxE b_a_x ((q16.1.l, q16.1.at_, (q16.1.m.name, q16.1.m.tagging, (TList.mk g16.1 q16.1.m.names), (TList.mk g16.2.1 q16.1.m.types), (Vh.mk g16.2.2 q16.1.m.nodes.length)), q16.1.e, q16.1.p) : ((List GTok) × Int × (Str × Int × (TList Str) × (TList Int) × Vh) × Int × Int)), tokE g16.1, tokE g16.2.1, vecE g16.2.2 (q16.1.m.nodes : List GNode), boxE b5 (q16.2 : GCon)]) (.cons .here (.cons (.there (.there (.there .here))) (.cons .here (.cons .here (.cons .here .nil))))) h (fun q16 g16 h => ?_) (fun J17 h hJ17 => ?_)
    · skip
      refine w_seq ?_
      refine w_seq ?_
      refine w_region ?_
      refine op_cons rfl (OpV.t (v_move rfl) ?_)
      refine cal_inv h fun y30 hy30 h => ?_
      refine op_cons rfl (t_call (r05_parser_is_w hy30) hT (.same rfl (.same rfl .nil)) (.cons .here (.cons .here (.cons .here (.cons .here .nil)))) (fun R H' hR => ?_))
      obtain ⟨t31, t32, v33, rfl, rfl⟩ := hR
      refine rl_nil ?_
      refine fin_nxt ?_
      refine w_J (ι := GPar × GCon) (γ := Tok × Tok × Vt) (fun q34 g34 => []) (fun q34 g34 => [boxE b_a_x ((q34.1.l, q34.1.at_, (q34.1.m.name, q34.1.m.tagging, (TList.mk g34.1 q34.1.m.names), (TList.mk g34.2.1 q34.1.m.types), (Vh.mk g34.2.2 q34.1.m.nodes.length)), q34.1.e, q34.1.p) : ((List GTok) × Int × (Str × Int × (TList Str) × (TList Int) × Vh) × Int × Int)), tokE g34.1, tokE g34.2.1, vecE g34.2.2 (q34.1.m.nodes : List GNode), boxE b5 (q34.2 : GCon)]) (.cons .here (.cons (.there (.there (.there .here))) (.cons .here (.cons .here (.cons .here .nil))))) h (fun q34 g34 h => ?_) (fun J35 h hJ35 => ?_)
      · skip
        refine w_seq ?_
        refine w_region ?_
        refine op_cons rfl (t_loadC (R := isv (q34.2)) ty79 rfl (.there (.there (.there (.there .here)))) (fun _ _ h => h) ?_)
        refine op_cons rfl (t_storeC (y' := (q34.2 : GCon)) ty79 rfl rfl (fun _ _ h => h) (.there (.there (.there (.there (.there .here))))) rfl ?_)
        refine rl_nil ?_
        refine fin_nxt ?_
        refine w_ret ?_
        refine ret_post (.cell rfl .here ty79 .nil) (.cons (.there .here) (.cons (.there .here) (.cons (.there .here) (.cons (.there .here) .nil)))) ?_
        obtain rfl := Option.some.inj h
        exact ⟨g34.1, g34.2.1, g34.2.2, rfl, rfl⟩
      · skip
        refine w_condM h rfl (fun _ h => ?_) (fun _ h => ?_)
        · skip
          refine w_seq ?_
          refine w_region ?_
          refine op_cons rfl (OpV.t (v_move rfl) ?_)
          refine cal_inv h fun y36 hy36 h => ?_
          refine op_cons rfl (t_call (r05_parser_must_w hy36) hT (.same rfl (.same rfl .nil)) (.cons .here (.cons .here (.cons .here (.cons .here .nil)))) (fun R H' hR => ?_))
          obtain ⟨t37, t38, v39, rfl, rfl⟩ := hR
          refine rl_nil ?_
          refine fin_nxt ?_
          refine w_region ?_
          refine op_cons rfl (OpV.t (v_fa rfl GCon.f3 fd79_3) ?_)
          refine op_cons rfl (t_storeC (y' := ({ q16.2 with more := true } : GCon)) ty4 rfl rfl (fun _ _ h => h) (.there (.there (.there (.there .here)))) rfl ?_)
          refine rl_nil ?_
          exact hJ35 _ (t37, t38, v39) h _ (join_imp 3 rfl rfl mod_nil (.cons (.there .here) (.cons (.there .here) (.cons (.there .here) (.cons (.there .here) (.cons .here (.cons .here .nil)))))))
        · skip
          refine w_skip ?_
          exact hJ35 _ (t31, t32, v33) h _ (join_imp 0 rfl rfl mod_nil (.cons .here (.cons .here (.cons .here (.cons .here (.cons .here (.cons .here .nil)))))))
    · skip
      refine w_block ?_
      refine w_seq ?_
      refine w_region ?_
      refine op_cons rfl (OpV.t (v_move rfl) ?_)
      refine cal_inv h fun y18 hy18 h => ?_
      refine op_cons rfl (t_call (r05_parser_is_w hy18) hT (.same rfl (.same rfl .nil)) (.cons .here (.cons .here (.cons .here (.cons .here .nil)))) (fun R H' hR => ?_))
      obtain ⟨t19, t20, v21, rfl, rfl⟩ := hR
      refine op_cons rfl (OpV.t (v_assign rfl) ?_)
      refine rl_nil ?_
      refine fin_nxt ?_
      refine w_condM h rfl (fun _ h => ?_) (fun _ h => ?_)
      · skip
        refine w_seq ?_
        refine w_region ?_
        refine op_cons rfl (OpV.t (v_move rfl) ?_)
        refine cal_inv h fun y22 hy22 h => ?_
        refine op_cons rfl (t_call (r05_parser_is_w hy22) hT (.same rfl (.same rfl .nil)) (.cons .here (.cons .here (.cons .here (.cons .here .nil)))) (fun R H' hR => ?_))
        obtain ⟨t23, t24, v25, rfl, rfl⟩ := hR
        refine op_cons rfl (OpV.t (v_not rfl) ?_)
        refine rl_nil ?_
        refine fin_nxt ?_
        refine w_condM h rfl (fun _ h => ?_) (fun _ h => ?_)
        · skip
          refine w_region ?_
          refine op_cons rfl (OpV.t (v_move rfl) ?_)
          refine cal_inv h fun y26 hy26 h => ?_
          refine op_cons rfl (t_call (r05_parser_number_w hy26) hT (.same rfl .nil) (.cons .here (.cons .here (.cons .here (.cons .here .nil)))) (fun R H' hR => ?_))
          obtain ⟨t27, t28, v29, rfl, rfl⟩ := hR
          refine op_cons rfl (OpV.t (v_fa rfl GCon.f2 fd79_2) ?_)
          refine op_cons rfl (t_storeC (y' := ({ q10.2 with hasHigh := true } : GCon)) ty4 rfl rfl (fun _ _ h => h) (.there (.there (.there (.there .here)))) rfl ?_)
          refine op_cons rfl (OpV.t (v_fa rfl GCon.f5 fd79_5) ?_)
          refine op_cons rfl (t_storeC (y' := ({ { q10.2 with hasHigh := true } with high := y26.1 } : GCon)) ty2 rfl rfl (fun _ _ h => h) .here rfl ?_)
          refine rl_nil ?_
          refine fin_block ?_
          exact hJ17 _ (t27, t28, v29) h _ (join_imp 10 rfl rfl mod_nil (.cons (.there .here) (.cons (.there .here) (.cons (.there .here) (.cons (.there .here) (.cons .here (.cons .here .nil)))))))
        · skip
          refine w_skip ?_
          refine fin_block ?_
          exact hJ17 _ (t23, t24, v25) h _ (join_imp 6 rfl rfl mod_nil (.cons .here (.cons .here (.cons .here (.cons .here (.cons .here (.cons .here .nil)))))))
      · skip
        refine w_seq ?_
        refine w_region ?_
        refine op_cons rfl (OpV.t (v_fa rfl GCon.f1 fd79_1) ?_)
        refine op_cons rfl (t_loadC (R := isv (q10.2.hasLow)) ty4 rfl (.there (.there (.there (.there .here)))) (fun _ _ h => h) ?_)
        refine op_cons rfl (OpV.t (v_assign rfl) ?_)
        refine rl_nil ?_
        refine fin_nxt ?_
        refine w_condM h rfl (fun _ h => ?_) (fun _ h => ?_)
        · skip
          refine w_region ?_
          refine op_cons rfl (OpV.t (v_fa rfl GCon.f4 fd79_4) ?_)
          refine op_cons rfl (t_loadC (R := isv (q10.2.low)) ty2 rfl (.there (.there (.there (.there .here)))) (fun _ _ h => h) ?_)
          refine op_cons rfl (OpV.t (v_fa rfl GCon.f2 fd79_2) ?_)
          refine op_cons rfl (t_storeC (y' := ({ q10.2 with hasHigh := true } : GCon)) ty4 rfl rfl (fun _ _ h => h) (.there (.there (.there (.there .here)))) rfl ?_)
          refine op_cons rfl (OpV.t (v_fa rfl GCon.f5 fd79_5) ?_)
          refine op_cons rfl (t_storeC (y' := ({ { q10.2 with hasHigh := true } with high := q10.2.low } : GCon)) ty2 rfl rfl (fun _ _ h => h) .here rfl ?_)
          refine rl_nil ?_
          refine fin_block ?_
          exact hJ17 _ (t19, t20, v21) h _ (join_imp 10 rfl rfl mod_nil (.cons (.there .here) (.cons (.there .here) (.cons (.there .here) (.cons (.there .here) (.cons .here (.cons .here .nil)))))))
        · skip
          refine w_skip ?_
          refine fin_block ?_
          exact hJ17 _ (t19, t20, v21) h _ (join_imp 6 rfl rfl mod_nil (.cons .here (.cons .here (.cons .here (.cons .here (.cons .here (.cons .here .nil)))))))
  · skip
    refine w_condM h rfl (fun _ h => ?_) (fun _ h => ?_)
    · skip
      refine w_region ?_
      refine op_cons rfl (OpV.t (v_move rfl) ?_)
      refine cal_inv h fun y12 hy12 h => ?_
      refine op_cons rfl (t_call (r05_parser_number_w hy12) hT (.same rfl .nil) (.cons .here (.cons .here (.cons .here (.cons .here .nil)))) (fun R H' hR => ?_))
      obtain ⟨t13, t14, v15, rfl, rfl⟩ := hR
      refine op_cons rfl (OpV.t (v_fa rfl GCon.f1 fd79_1) ?_)
      refine op_cons rfl (t_storeC (y' := ((GCon.mk true true false false (0 : Int) (0 : Int)) : GCon)) ty4 rfl rfl (fun _ _ h => h) (.there (.there (.there (.there .here)))) rfl ?_)
      refine op_cons rfl (OpV.t (v_fa rfl GCon.f4 fd79_4) ?_)
      refine op_cons rfl (t_storeC (y' := ((GCon.mk true true false false y12.1 (0 : Int)) : GCon)) ty2 rfl rfl (fun _ _ h => h) .here rfl ?_)
      refine rl_nil ?_
      exact hJ11 _ (t13, t14, v15) h _ (join_imp 4 rfl rfl mod_nil (.cons (.there .here) (.cons (.there .here) (.cons (.there .here) (.cons (.there .here) (.cons .here (.cons .here .nil)))))))
    · skip
      refine w_skip ?_
      exact hJ11 _ (t7, t8, v9) h _ (join_imp 0 rfl rfl mod_nil (.cons .here (.cons .here (.cons .here (.cons .here (.cons .here (.cons .here .nil)))))))


theorem r05_parser_size_w : ∀ {a_x : GPar} {b_a_x : Nat} {t_a_x1 : Tok} {t_a_x2 : Tok} {v_a_x3 : Vt} {r : GCon × GPar}, r05_parser_size a_x = some r → Ctr Tryd.prog 61 [ptrv b_a_x (Fld.id ((List GTok) × Int × (Str × Int × (TList Str) × (TList Int) × Vh) × Int × Int))] [boxE b_a_x ((a_x.l, a_x.at_, (a_x.m.name, a_x.m.tagging, (TList.mk t_a_x1 a_x.m.names), (TList.mk t_a_x2 a_x.m.types), (Vh.mk v_a_x3 a_x.m.nodes.length)), a_x.e, a_x.p) : ((List GTok) × Int × (Str × Int × (TList Str) × (TList Int) × Vh) × Int × Int)), tokE t_a_x1, tokE t_a_x2, vecE v_a_x3 (a_x.m.nodes : List GNode)] (fun R H => ∃ u1 : Tok, ∃ u2 : Tok, ∃ u3 : Vt, R = oneOf [isv (r.1)] ∧ H = [boxE b_a_x ((r.2.l, r.2.at_, (r.2.m.name, r.2.m.tagging, (TList.mk u1 r.2.m.names), (TList.mk u2 r.2.m.types), (Vh.mk u3 r.2.m.nodes.length)), r.2.e, r.2.p)), tokE u1, tokE u2, vecE u3 (r.2.m.nodes)]) := by
  intro a_x b_a_x t_a_x1 t_a_x2 v_a_x3 r h
  unfold r05_parser_size at h
  refine spec_intro Tryd.func61 rfl (by decide +kernel) (by rfl) fun w0 S0 hT => ?_
  refine w_seq ?_
  refine w_region ?_
  refine op_cons rfl (t_alloc _ ze79 fun b4 => ?_)
  refine rl_nil ?_
  refine fin_nxt ?_
  refine w_seq ?_
  refine w_seq ?_
  refine w_region ?_
  refine op_cons rfl (OpV.t (v_move rfl) ?_)
  refine cal_inv h fun y5 hy5 h => ?_
  refine op_cons rfl (t_call (r05_parser_is_w hy5) hT (.same rfl (.same rfl .nil)) (.cons (.there .here) (.cons (.there .here) (.cons (.there .here) (.cons (.there .here) .nil)))) (fun R H' hR => ?_))
  obtain ⟨t6, t7, v8, rfl, rfl⟩ := hR
  refine op_cons rfl (OpV.t (v_not rfl) ?_)
  refine rl_nil ?_
  refine fin_nxt ?_
  refine w_condM h rfl (fun _ h => ?_) (fun _ h => ?_)
  · skip
    refine w_seq ?_
    refine w_region ?_
    refine op_cons rfl (OpV.t (v_build (z := (GCon.mk false false false false (0 : Int) (0 : Int))) rfl bu79 ze79 .nil) ?_)
    refine op_cons rfl (t_storeC (y' := ((GCon.mk false false false false (0 : Int) (0 : Int)) : GCon)) ty79 rfl rfl (fun _ _ h => h) (.there (.there (.there (.there .here)))) rfl ?_)
    refine rl_nil ?_
    refine fin_nxt ?_
    refine w_ret ?_
    refine ret_nxt ?_
    refine ret_post (.cell rfl .here ty79 .nil) (.cons (.there .here) (.cons (.there .here) (.cons (.there .here) (.cons (.there .here) .nil)))) ?_
    obtain rfl := Option.some.inj h
    exact ⟨t6, t7, v8, rfl, rfl⟩
  · skip
    refine w_skip ?_
    refine fin_nxt ?_
    refine w_seq ?_
    refine w_region ?_
    refine op_cons rfl (OpV.t (v_move rfl) ?_)
    refine cal_inv h fun y9 hy9 h => ?_
    refine op_cons rfl (t_call (r05_parser_must_w hy9) hT (.same rfl (.same rfl .nil)) (.cons .here (.cons .here (.cons .here (.cons .here .nil)))) (fun R H' hR => ?_))
    obtain ⟨t10, t11, v12, rfl, rfl⟩ := hR
    refine rl_nil ?_
    refine fin_nxt ?_
    refine w_seq ?_
    refine w_region ?_
    refine op_cons rfl (OpV.t (v_move rfl) ?_)
    refine cal_inv h fun y13 hy13 h => ?_
    refine op_cons rfl (t_call (r05_parser_must_w hy13) hT (.same rfl (.same rfl .nil)) (.cons .here (.cons .here (.cons .here (.cons .here .nil)))) (fun R H' hR => ?_))
    obtain ⟨t14, t15, v16, rfl, rfl⟩ := hR
    refine rl_nil ?_
    refine fin_nxt ?_
    refine w_seq ?_
    refine w_region ?_
    refine op_cons rfl (OpV.t (v_move rfl) ?_)
    refine cal_inv h fun y17 hy17 h => ?_
    refine op_cons rfl (t_call (r05_parser_bounds_w hy17) hT (.same rfl .nil) (.cons .here (.cons .here (.cons .here (.cons .here .nil)))) (fun R H' hR => ?_))
    obtain ⟨t18, t19, v20, rfl, rfl⟩ := hR
    refine op_cons rfl (t_alloc _ ze79 fun b21 => ?_)
    refine op_cons rfl (t_storeC (y' := (y17.1 : GCon)) ty79 rfl rfl (fun _ _ h => h) .here rfl ?_)
    refine rl_upd (upd_imm 3 .here rfl) ?_
    refine rl_nil ?_
    refine fin_nxt ?_
    refine w_seq ?_
    refine w_region ?_
    refine op_cons rfl (OpV.t (v_move rfl) ?_)
    refine cal_inv h fun y22 hy22 h => ?_
    refine op_cons rfl (t_call (r05_parser_must_w hy22) hT (.same rfl (.same rfl .nil)) (.cons .here (.cons .here (.cons .here (.cons .here .nil)))) (fun R H' hR => ?_))
    obtain ⟨t23, t24, v25, rfl, rfl⟩ := hR
    refine rl_nil ?_
    refine fin_nxt ?_
    refine w_seq ?_
    refine w_region ?_
    refine op_cons rfl (OpV.t (v_move rfl) ?_)
    refine cal_inv h fun y26 hy26 h => ?_
    refine op_cons rfl (t_call (r05_parser_must_w hy26) hT (.same rfl (.same rfl .nil)) (.cons .here (.cons .here (.cons .here (.cons .here .nil)))) (fun R H' hR => ?_))
    obtain ⟨t27, t28, v29, rfl, rfl⟩ := hR
    refine rl_nil ?_
    refine fin_nxt ?_
    refine w_seq ?_
    refine w_region ?_
    refine op_cons rfl (OpV.t (v_loadI ty79 rfl) ?_)
    refine op_cons rfl (t_storeC (y' := (y17.1 : GCon)) ty79 rfl rfl (fun _ _ h => h) (.there (.there (.there (.there .here)))) rfl ?_)
    refine rl_nil ?_
    refine fin_nxt ?_
    refine w_ret ?_
    refine ret_post (.cell rfl .here ty79 .nil) (.cons (.there .here) (.cons (.there .here) (.cons (.there .here) (.cons (.there .here) .nil)))) ?_
    obtain rfl := Option.some.inj h
    exact ⟨t27, t28, v29, rfl, rfl⟩

end Go.Proofs.YtdcdndflfhaejaaDoor
