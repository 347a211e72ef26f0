/- Walks, printed by mill.py. -/
import Derived.Test.YtnnijoepfgnlfaaGreatDoorPaA
import Derived.Test.YtnnijoepfgnlfaaGreatDoorPaB
import Derived.Test.YtnnijoepfgnlfaaGreatDoorPaC
import Derived.Test.YtnnijoepfgnlfaaGreatDoorPaD
import Derived.Test.YtnnijoepfgnlfaaGreatDoorPaE
set_option linter.unusedVariables false
set_option linter.unusedSimpArgs false

namespace Go.Proofs.YtnnijoepfgnlfaaGreatDoor
open Go.Sy
set_option maxRecDepth 4000
theorem octets_TakeGroups_w : ∀ {a_b : (List UInt8)} {r : UInt64 × Int × Int}, octets_TakeGroups a_b = some r → Ctr Tryz.prog 195 [isv (a_b)] [] (fun R H => R = oneOf [isv (r.1), isv (r.2.1), isv (r.2.2)] ∧ H = []) := by
 intro a_b r h
 unfold octets_TakeGroups at h
 refine spec_intro Tryz.func195 rfl (by decide +kernel) (by rfl) fun w0 S0 hT => ?_
 refine wsr (oA rfl (oA rfl (oA rfl (rnf ?_))))
 refine wsr (oA rfl (rnf (w_seq (wsr ?_))))
 refine oM rfl (oV (v_ln (l := a_b) rfl (fun _ _ h => h) sl42) (oM rfl (rnf (w_block ?_))))
 refine w_lp (ι := UInt64 × Int) (γ := Unit) (fun q1 g1 => [(5, isv (q1.1)), (10, isv (q1.2))]) (fun q1 g1 => []) h () (mod_cons (j := 5) rfl (fun _ _ h => h) (mod_cons (j := 10) rfl (fun _ _ h => h) mod_nil)) .nil (fun L2 q1 g1 Q23 h hL2 eL2 rL2 => wsr (oV (v_lss rfl rfl) (rnf (w_seq ?_))))
 refine w_condM h rfl (fun _ h => ?_) (fun _ h => ?_)
 ·
  refine wkf (w_seq (w_block (wsr (oM rfl ?_))))
  refine cal_inv h fun y13 hy13 h => oV (v_ix (l := a_b) rfl (fun _ _ h => h) rfl sl42 hy13) (oV (v_loadI ty5 rfl) (oA rfl (oA rfl ?_)))
  refine rnf (w_seq (wsr (oM rfl (oV (v_eql rfl rfl) ?_))))
  refine oM rfl (rl_j (jb 20) je .nil h 3 rfl (fun q14 g14 h => ?_) (fun J15 h hJ15 => ?_))
  ·
   refine oM rfl (rl_j (jb 25) je .nil h 4 rfl (fun q17 g17 h => ?_) (fun J18 h hJ18 => ?_))
   ·
    refine rnf (w_condM h rfl (fun _ h => ?_) (fun _ h => ?_))
    ·
     refine wsr (oA rfl (oA rfl (oA rfl (rnf ?_))))
     refine w_ret (ret_nxt (ret_block (ret_nxt (rL2 _ ?_))))
     refine ret_block (ret_nxt (ret_post (.tmp rfl (.tmp rfl (.tmp rfl .nil))) .nil ?_))
     obtain rfl := Option.some.inj h
     exact ⟨rfl, rfl⟩
    ·
     refine wkf (wsr (oM rfl (asr_inv h fun q20 h => oV (v_shl64 rfl rfl q20) ?_)))
     refine oM rfl (oV (v_and8 rfl rfl) (oV (v_u8u64 Tryz.underlying5 Tryz.underlying41 rfl) (oV (v_or64 rfl rfl) (oA rfl ?_))))
     refine rnf (wsr (oM rfl (oV (v_lss8 rfl rfl) (rnf ?_))))
     refine w_condM h rfl (fun _ h => ?_) (fun _ h => ?_)
     ·
      refine wsr (oM rfl (oM rfl (ck_inv h fun q21 h => oV (v_add rfl rfl q21) ?_)))
      refine oA rfl (oA rfl (oA rfl (rnf (w_ret ?_))))
      refine ret_block (ret_nxt (rL2 _ (ret_block (ret_nxt ?_))))
      refine ret_post (.tmp rfl (.tmp rfl (.tmp rfl .nil))) .nil ?_
      obtain rfl := Option.some.inj h
      exact ⟨rfl, rfl⟩
     ·
      refine w_skip (fin_block (fin_nxt (w_region (ck_inv h fun q22 h => ?_))))
      exact oV (v_add rfl rfl q22) (oM rfl (rl_nil (hL2 _ () h _ (join_imp 25 rfl rfl (mod_cons (j := 5) rfl (fun _ _ h => h) (mod_cons (j := 10) rfl (fun _ _ h => h) mod_nil)) .nil))))
   ·
    refine rl_condM (j := 21) h rfl (fun g19 h => ?_) (fun g19 h => ?_)
    ·
     exact oP 21 rfl rfl g19 (oP 21 rfl rfl g19 (oP 21 rfl rfl g19 (oV (v_pick_t rfl g19 rfl) (hJ18 _ () h _ (ji 4 25 rfl rfl rfl)))))
    ·
     refine oK 21 rfl rfl rfl g19 (v_move rfl) (oK 21 rfl rfl rfl g19 (v_shr64 (q := (57 : UInt64)) rfl rfl (by decide)) ?_)
     exact oK 21 rfl rfl rfl g19 (v_neA eq41 rfl rfl) (oV (v_pick_f rfl g19 rfl) (hJ18 _ () h _ (ji 4 25 rfl rfl rfl)))
  ·
   refine rl_condM (j := 17) h rfl (fun g16 h => ?_) (fun g16 h => ?_)
   ·
    exact oK 17 rfl rfl rfl g16 (v_move rfl) (oK 17 rfl rfl rfl g16 (v_eqA eq5 rfl rfl) (oV (v_pick_t rfl g16 rfl) (hJ15 _ () h _ (ji 3 20 rfl rfl rfl))))
   ·
    exact oP 17 rfl rfl g16 (oP 17 rfl rfl g16 (oV (v_pick_f rfl g16 rfl) (hJ15 _ () h _ (ji 3 20 rfl rfl rfl))))
 ·
  refine w_exit (exi_nxt (eL2 _ _ (exi_block (fin_nxt ?_))))
  refine wsr (oA rfl (oA rfl (oA rfl (rnf ?_))))
  refine w_ret (ret_post (.tmp rfl (.tmp rfl (.tmp rfl .nil))) .nil ?_)
  obtain rfl := Option.some.inj h
  exact ⟨rfl, rfl⟩


theorem tlv_number_w : ∀ {a_b : (List UInt8)} {r : Int × Int × Int}, tlv_number a_b = some r → Ctr Tryz.prog 188 [isv (a_b)] [] (fun R H => R = oneOf [isv (r.1), isv (r.2.1), isv (r.2.2)] ∧ H = []) := by
 intro a_b r h
 unfold tlv_number at h
 refine spec_intro Tryz.func188 rfl (by decide +kernel) (by rfl) fun w0 S0 hT => ?_
 refine wsr (oA rfl (oA rfl (oA rfl (rnf ?_))))
 refine w_seq (wsr (oM rfl (cal_inv h fun y1 hy1 h => oV (v_ix (l := a_b) rfl (fun _ _ h => h) rfl sl42 hy1) ?_)))
 refine oV (v_loadI ty5 rfl) (oV (v_and8 rfl rfl) (oV (v_u8i Tryz.underlying5 Tryz.underlying3 rfl) (oA rfl (rnf ?_))))
 refine wsr (oM rfl (oV (v_lss rfl rfl) (rnf (w_condM h rfl (fun _ h => ?_) (fun _ h => ?_)))))
 ·
  refine wsr (oM rfl (oA rfl (oA rfl (oA rfl ?_))))
  refine rnf (w_ret (ret_nxt (ret_post (.tmp rfl (.tmp rfl (.tmp rfl .nil))) .nil ?_)))
  obtain rfl := Option.some.inj h
  exact ⟨rfl, rfl⟩
 ·
  refine wkf (wsr (oM rfl (asd_inv h fun q2 h => oV (v_sl (l := a_b) rfl (fun _ _ h => h) sl42 (.inr ⟨_, rfl, rfl⟩) (.inl ⟨rfl, rfl⟩) q2.1 q2.2.1 q2.2.2) ?_)))
  refine cal_inv h fun y3 hy3 h => oT (t_call (octets_TakeGroups_w hy3) hT (.same rfl .nil) .nil (fun R H' hR => ?_))
  obtain ⟨rfl, rfl⟩ := hR
  refine oM rfl (oV (v_extract rfl rfl) (oV (v_extract rfl rfl) (oV (v_extract rfl rfl) (oA rfl ?_))))
  refine oA rfl (oA rfl (rnf (w_seq (w_block ?_))))
  refine wsr (oM rfl (oV (v_neq rfl rfl) (oA rfl (rnf ?_))))
  refine w_condM h rfl (fun _ h => ?_) (fun _ h => ?_)
  ·
   refine wsr (oM rfl (oA rfl (oA rfl (oA rfl ?_))))
   refine rnf (w_ret (ret_block (ret_nxt (ret_post (.tmp rfl (.tmp rfl (.tmp rfl .nil))) .nil ?_))))
   obtain rfl := Option.some.inj h
   exact ⟨rfl, rfl⟩
  ·
   refine wsr (oM rfl (oV (v_lss64 rfl rfl) (oM rfl (rl_j (jb 34) je .nil h 3 rfl (fun q4 g4 h => ?_) (fun J5 h hJ5 => ?_)))))
   ·
    refine oA rfl (rnf (w_condM h rfl (fun _ h => ?_) (fun _ h => ?_)))
    ·
     refine wsr (oA rfl (oA rfl (oA rfl (rnf ?_))))
     refine w_ret (ret_block (ret_nxt (ret_post (.tmp rfl (.tmp rfl (.tmp rfl .nil))) .nil ?_)))
     obtain rfl := Option.some.inj h
     exact ⟨rfl, rfl⟩
    ·
     refine w_skip (fin_block (fin_nxt (wsr (oM rfl ?_))))
     refine ck_inv h fun q7 h => oV (v_u64i Tryz.underlying41 Tryz.underlying3 rfl q7) (oM rfl (oA rfl (oA rfl ?_)))
     refine oA rfl (rnf (w_ret (ret_post (.tmp rfl (.tmp rfl (.tmp rfl .nil))) .nil ?_)))
     obtain rfl := Option.some.inj h
     exact ⟨rfl, rfl⟩
   ·
    refine rl_condM (j := 31) h rfl (fun g6 h => ?_) (fun g6 h => ?_)
    ·
     exact oP 31 rfl rfl g6 (oP 31 rfl rfl g6 (oV (v_pick_t rfl g6 rfl) (hJ5 _ () h _ (ji 3 34 rfl rfl rfl))))
    ·
     exact oK 31 rfl rfl rfl g6 (v_move rfl) (oK 31 rfl rfl rfl g6 (v_gtr64 rfl rfl) (oV (v_pick_f rfl g6 rfl) (hJ5 _ () h _ (ji 3 34 rfl rfl rfl))))


theorem octets_taken_w : ∀ {a_b : (List UInt8)} {r : UInt64}, octets_taken a_b = some r → Ctr Tryz.prog 198 [isv (a_b)] [] (fun R H => R = oneOf [isv (r)] ∧ H = []) := by
 intro a_b r h
 unfold octets_taken at h
 refine spec_intro Tryz.func198 rfl (by decide +kernel) (by rfl) fun w0 S0 hT => ?_
 refine wsr (oA rfl (rnf (wsr (oA rfl ?_))))
 refine rnf (w_seq (wsr (oM rfl (oV (v_ln (l := a_b) rfl (fun _ _ h => h) sl42) ?_))))
 refine oM rfl (rnf (w_block (w_lp (ι := UInt64 × Int) (γ := Unit) (fun q1 g1 => [(3, isv (q1.1)), (8, isv (q1.2))]) (fun q1 g1 => []) h () (mod_cons (j := 3) rfl (fun _ _ h => h) (mod_cons (j := 8) rfl (fun _ _ h => h) mod_nil)) .nil (fun L2 q1 g1 Q9 h hL2 eL2 rL2 => wsr ?_))))
 refine oV (v_lss rfl rfl) (rnf (w_seq (w_condM h rfl (fun _ h => ?_) (fun _ h => ?_))))
 ·
  refine wkf (w_seq (w_block (wsr (cal_inv h fun y6 hy6 h => ?_))))
  refine oV (v_ix (l := a_b) rfl (fun _ _ h => h) rfl sl42 hy6) (oV (v_loadI ty5 rfl) (oA rfl (rnf (w_region ?_))))
  refine oM rfl (asr_inv h fun q7 h => oV (v_shl64 rfl rfl q7) (oM rfl (oV (v_u8u64 Tryz.underlying5 Tryz.underlying41 rfl) ?_)))
  refine oV (v_or64 rfl rfl) (oA rfl (rl_nil (fin_block (fin_nxt ?_))))
  refine w_region (ck_inv h fun q8 h => oV (v_add rfl rfl q8) (oM rfl (rl_nil ?_)))
  exact hL2 _ () h _ (join_imp 14 rfl rfl (mod_cons (j := 3) rfl (fun _ _ h => h) (mod_cons (j := 8) rfl (fun _ _ h => h) mod_nil)) .nil)
 ·
  refine w_exit (exi_nxt (eL2 _ _ (exi_block (fin_nxt ?_))))
  refine wsr (oM rfl (oA rfl (rnf (w_ret ?_))))
  refine ret_post (.tmp rfl .nil) .nil ?_
  obtain rfl := Option.some.inj h
  exact ⟨rfl, rfl⟩


theorem octets_TakeUnsigned_w : ∀ {a_b : (List UInt8)} {r : UInt64 × Int}, octets_TakeUnsigned a_b = some r → Ctr Tryz.prog 196 [isv (a_b)] [] (fun R H => R = oneOf [isv (r.1), isv (r.2)] ∧ H = []) := by
 intro a_b r h
 unfold octets_TakeUnsigned at h
 refine spec_intro Tryz.func196 rfl (by decide +kernel) (by rfl) fun w0 S0 hT => ?_
 refine wsr (oA rfl (oA rfl (rnf (w_seq ?_))))
 refine wsr (oM rfl (oV (v_ln (l := a_b) rfl (fun _ _ h => h) sl42) (oV (v_eql rfl rfl) (rnf ?_))))
 refine w_condM h rfl (fun _ h => ?_) (fun _ h => ?_)
 ·
  refine wsr (oA rfl (oA rfl (rnf (w_ret ?_))))
  refine ret_nxt (ret_post (.tmp rfl (.tmp rfl .nil)) .nil ?_)
  obtain rfl := Option.some.inj h
  exact ⟨rfl, rfl⟩
 ·
  refine wkf (w_seq (wsr (oM rfl (oV (v_ln (l := a_b) rfl (fun _ _ h => h) sl42) ?_))))
  refine oV (v_gtr rfl rfl) (oM rfl (rl_j (jb 20) je .nil h 10 rfl (fun q1 g1 h => ?_) (fun J2 h hJ2 => ?_)))
  ·
   refine rnf (w_condM h rfl (fun _ h => ?_) (fun _ h => ?_))
   ·
    refine wsr (oA rfl (oA rfl (rnf (w_ret ?_))))
    refine ret_nxt (ret_post (.tmp rfl (.tmp rfl .nil)) .nil ?_)
    obtain rfl := Option.some.inj h
    exact ⟨rfl, rfl⟩
   ·
    refine wkf (wsr (oM rfl (cal_inv h fun y8 hy8 h => oT (t_call (octets_taken_w hy8) hT (.same rfl .nil) .nil (fun R H' hR => ?_)))))
    obtain ⟨rfl, rfl⟩ := hR
    refine oA rfl (oA rfl (rnf (w_ret (ret_post (.tmp rfl (.tmp rfl .nil)) .nil ?_))))
    obtain rfl := Option.some.inj h
    exact ⟨rfl, rfl⟩
  ·
   refine rl_condM (j := 10) h rfl (fun g3 h => ?_) (fun g3 h => ?_)
   ·
    refine oP 10 rfl rfl g3 (oP 10 rfl rfl g3 (oP 10 rfl rfl g3 (oP 10 rfl rfl g3 (op_passU rfl (dj := 14) rfl ?_))))
    refine op_passU rfl (dj := 14) rfl (op_passU rfl (dj := 14) rfl (op_passU rfl (dj := 14) rfl (oP 10 rfl rfl g3 (oV (v_pick_t rfl g3 rfl) ?_))))
    exact hJ2 _ () h _ (ji 10 20 rfl rfl rfl)
   ·
    refine oK 10 rfl rfl rfl g3 (v_move rfl) (oK 10 rfl rfl rfl g3 (v_ln (l := a_b) rfl (fun _ _ h => h) sl42) (oK 10 rfl rfl rfl g3 (v_gtr rfl rfl) (oK 10 rfl rfl rfl g3 (v_move rfl) (rl_j (jb 19) je .nil h 5 rfl (fun q4 g4 h => ?_) (fun J5 h hJ5 => ?_)))))
    ·
     exact oV (v_pick_f rfl g3 rfl) (hJ2 _ () h _ (ji 6 20 rfl rfl rfl))
    ·
     refine rl_condM (j := 14) h rfl (fun g6 h => ?_) (fun g6 h => ?_)
     ·
      refine oK 14 rfl rfl rfl g6 (v_move rfl) (cal_inv h fun y7 hy7 h => oK 14 rfl rfl rfl g6 (v_ix (l := a_b) rfl (fun _ _ h => h) rfl sl42 hy7) (oK 14 rfl rfl rfl g6 (v_loadI ty5 rfl) (oK 14 rfl rfl rfl g6 (v_eqA eq5 rfl rfl) ?_)))
      exact oK 10 rfl rfl rfl g3 (v_pick_t rfl g6 rfl) (hJ5 _ () h _ (ji 5 19 rfl rfl rfl))
     ·
      refine oP 14 rfl rfl g6 (oP 14 rfl rfl g6 (oP 14 rfl rfl g6 (oP 14 rfl rfl g6 (oK 10 rfl rfl rfl g3 (v_pick_f rfl g6 rfl) ?_))))
      exact hJ5 _ () h _ (ji 5 19 rfl rfl rfl)


theorem tlv_length_w : ∀ {a_b : (List UInt8)} {r : Int × Int × Int}, tlv_length a_b = some r → Ctr Tryz.prog 189 [isv (a_b)] [] (fun R H => R = oneOf [isv (r.1), isv (r.2.1), isv (r.2.2)] ∧ H = []) := by
 intro a_b r h
 unfold tlv_length at h
 refine spec_intro Tryz.func189 rfl (by decide +kernel) (by rfl) fun w0 S0 hT => ?_
 refine wsr (oA rfl (oA rfl (oA rfl (rnf ?_))))
 refine w_seq (wsr (oM rfl (oV (v_ln (l := a_b) rfl (fun _ _ h => h) sl42) (oV (v_eql rfl rfl) ?_))))
 refine rnf (w_condM h rfl (fun _ h => ?_) (fun _ h => ?_))
 ·
  refine wsr (oA rfl (oA rfl (oA rfl (rnf ?_))))
  refine w_ret (ret_nxt (ret_post (.tmp rfl (.tmp rfl (.tmp rfl .nil))) .nil ?_))
  obtain rfl := Option.some.inj h
  exact ⟨rfl, rfl⟩
 ·
  refine wkf (w_seq (wsr (oM rfl (cal_inv h fun y1 hy1 h => ?_))))
  refine oV (v_ix (l := a_b) rfl (fun _ _ h => h) rfl sl42 hy1) (oV (v_loadI ty5 rfl) (oV (v_lss8 rfl rfl) (rnf (w_condM h rfl (fun _ h => ?_) (fun _ h => ?_)))))
  ·
   refine wsr (oM rfl (cal_inv h fun y2 hy2 h => oV (v_ix (l := a_b) rfl (fun _ _ h => h) rfl sl42 hy2) (oV (v_loadI ty5 rfl) ?_)))
   refine oV (v_u8i Tryz.underlying5 Tryz.underlying3 rfl) (oA rfl (oA rfl (oA rfl (rnf ?_))))
   refine w_ret (ret_nxt (ret_post (.tmp rfl (.tmp rfl (.tmp rfl .nil))) .nil ?_))
   obtain rfl := Option.some.inj h
   exact ⟨rfl, rfl⟩
  ·
   refine wkf (wsr (oM rfl (cal_inv h fun y3 hy3 h => oV (v_ix (l := a_b) rfl (fun _ _ h => h) rfl sl42 hy3) ?_)))
   refine oV (v_loadI ty5 rfl) (oV (v_andNot8 rfl rfl) (oV (v_u8i Tryz.underlying5 Tryz.underlying3 rfl) (oA rfl (rnf ?_))))
   refine w_seq (w_block (wsr (oM rfl (oV (v_eql rfl rfl) ?_))))
   refine oM rfl (rl_j (jb 30) je .nil h 3 rfl (fun q4 g4 h => ?_) (fun J5 h hJ5 => ?_))
   ·
    refine oA rfl (rnf (w_condM h rfl (fun _ h => ?_) (fun _ h => ?_)))
    ·
     refine wsr (oA rfl (oA rfl (oA rfl (rnf ?_))))
     refine w_ret (ret_block (ret_nxt (ret_post (.tmp rfl (.tmp rfl (.tmp rfl .nil))) .nil ?_)))
     obtain rfl := Option.some.inj h
     exact ⟨rfl, rfl⟩
    ·
     refine wsr (oM rfl (oV (v_ln (l := a_b) rfl (fun _ _ h => h) sl42) (oM rfl (oV (v_leq rfl rfl) ?_))))
     refine oA rfl (rnf (w_condM h rfl (fun _ h => ?_) (fun _ h => ?_)))
     ·
      refine wsr (oA rfl (oA rfl (oA rfl (rnf ?_))))
      refine w_ret (ret_block (ret_nxt (ret_post (.tmp rfl (.tmp rfl (.tmp rfl .nil))) .nil ?_)))
      obtain rfl := Option.some.inj h
      exact ⟨rfl, rfl⟩
     ·
      refine w_skip (fin_block (fin_nxt (wsr (oM rfl ?_))))
      refine oM rfl (ck_inv h fun q7 h => oV (v_add rfl rfl q7) (asd_inv h fun q8 h => oV (v_sl (l := a_b) rfl (fun _ _ h => h) sl42 (.inr ⟨_, rfl, rfl⟩) (.inr ⟨_, rfl, rfl⟩) q8.1 q8.2.1 q8.2.2) ?_))
      refine cal_inv h fun y9 hy9 h => oT (t_call (octets_TakeUnsigned_w hy9) hT (.same rfl .nil) .nil (fun R H' hR => ?_))
      obtain ⟨rfl, rfl⟩ := hR
      refine oM rfl (oV (v_extract rfl rfl) (oV (v_extract rfl rfl) (oA rfl (oA rfl ?_))))
      refine rnf (w_seq (wsr (oM rfl (oV (v_neq rfl rfl) ?_))))
      refine oM rfl (rl_j (jb 49) je .nil h 3 rfl (fun q10 g10 h => ?_) (fun J11 h hJ11 => ?_))
      ·
       refine oM rfl (rl_j (jb 53) je .nil h 3 rfl (fun q13 g13 h => ?_) (fun J14 h hJ14 => ?_))
       ·
        refine rnf (w_condM h rfl (fun _ h => ?_) (fun _ h => ?_))
        ·
         refine wsr (oA rfl (oA rfl (oA rfl (rnf ?_))))
         refine w_ret (ret_nxt (ret_post (.tmp rfl (.tmp rfl (.tmp rfl .nil))) .nil ?_))
         obtain rfl := Option.some.inj h
         exact ⟨rfl, rfl⟩
        ·
         refine wkf (wsr (oM rfl (ck_inv h fun q16 h => oV (v_u64i Tryz.underlying41 Tryz.underlying3 rfl q16) ?_)))
         refine oM rfl (ck_inv h fun q17 h => oV (v_add rfl rfl q17) (oA rfl (oA rfl ?_)))
         refine oA rfl (rnf (w_ret (ret_post (.tmp rfl (.tmp rfl (.tmp rfl .nil))) .nil ?_)))
         obtain rfl := Option.some.inj h
         exact ⟨rfl, rfl⟩
       ·
        refine rl_condM (j := 50) h rfl (fun g15 h => ?_) (fun g15 h => ?_)
        ·
         exact oP 50 rfl rfl g15 (oP 50 rfl rfl g15 (oV (v_pick_t rfl g15 rfl) (hJ14 _ () h _ (ji 3 53 rfl rfl rfl))))
        ·
         exact oK 50 rfl rfl rfl g15 (v_move rfl) (oK 50 rfl rfl rfl g15 (v_gtr64 rfl rfl) (oV (v_pick_f rfl g15 rfl) (hJ14 _ () h _ (ji 3 53 rfl rfl rfl))))
      ·
       refine rl_condM (j := 46) h rfl (fun g12 h => ?_) (fun g12 h => ?_)
       ·
        exact oP 46 rfl rfl g12 (oP 46 rfl rfl g12 (oV (v_pick_t rfl g12 rfl) (hJ11 _ () h _ (ji 3 49 rfl rfl rfl))))
       ·
        exact oK 46 rfl rfl rfl g12 (v_move rfl) (oK 46 rfl rfl rfl g12 (v_lss64 rfl rfl) (oV (v_pick_f rfl g12 rfl) (hJ11 _ () h _ (ji 3 49 rfl rfl rfl))))
   ·
    refine rl_condM (j := 27) h rfl (fun g6 h => ?_) (fun g6 h => ?_)
    ·
     exact oP 27 rfl rfl g6 (oP 27 rfl rfl g6 (oV (v_pick_t rfl g6 rfl) (hJ5 _ () h _ (ji 3 30 rfl rfl rfl))))
    ·
     exact oK 27 rfl rfl rfl g6 (v_move rfl) (oK 27 rfl rfl rfl g6 (v_gtr rfl rfl) (oV (v_pick_f rfl g6 rfl) (hJ5 _ () h _ (ji 3 30 rfl rfl rfl))))


theorem tlv_TakeHead_w : ∀ {a_b : (List UInt8)} {r : Tag × Bool × Int × Int × Int}, tlv_TakeHead a_b = some r → Ctr Tryz.prog 178 [isv (a_b)] [] (fun R H => R = oneOf [isv (r.1), isv (r.2.1), isv (r.2.2.1), isv (r.2.2.2.1), isv (r.2.2.2.2)] ∧ H = []) := by
 intro a_b r h
 unfold tlv_TakeHead at h
 refine spec_intro Tryz.func178 rfl (by decide +kernel) (by rfl) fun w0 S0 hT => ?_
 refine wsr (oT (t_alloc _ ze31 fun b1 => oA rfl (oA rfl (oA rfl ?_))))
 refine oA rfl (rnf (w_seq (wsr (oM rfl ?_))))
 refine oV (v_ln (l := a_b) rfl (fun _ _ h => h) sl42) (oV (v_eql rfl rfl) (rnf (w_condM h rfl (fun _ h => ?_) (fun _ h => ?_))))
 ·
  refine wsr (oV (v_build (z := (Tag.mk (0 : Int) (0 : Int))) rfl bu31 ze31 .nil) (oT (t_storeC (y' := ((Tag.mk (0 : Int) (0 : Int)) : Tag)) ty31 rfl rfl (fun _ _ h => h) .here rfl (oA rfl (oA rfl ?_)))))
  refine oA rfl (oA rfl (rnf (w_ret (ret_nxt ?_))))
  refine ret_post (.cell rfl .here ty31 (.tmp rfl (.tmp rfl (.tmp rfl (.tmp rfl .nil))))) .nil ?_
  obtain rfl := Option.some.inj h
  exact ⟨rfl, rfl⟩
 ·
  refine wkf (wsr (oM rfl (cal_inv h fun y2 hy2 h => oT (t_call (tlv_number_w hy2) hT (.same rfl .nil) .nil (fun R H' hR => ?_)))))
  obtain ⟨rfl, rfl⟩ := hR
  refine oM rfl (oV (v_extract rfl rfl) (oV (v_extract rfl rfl) (oV (v_extract rfl rfl) (oA rfl ?_))))
  refine oA rfl (oA rfl (rnf (w_seq (wsr ?_))))
  refine oM rfl (oV (v_neq rfl rfl) (rnf (w_condM h rfl (fun _ h => ?_) (fun _ h => ?_))))
  ·
   refine wsr (oV (v_build (z := (Tag.mk (0 : Int) (0 : Int))) rfl bu31 ze31 .nil) (oM rfl (oT (t_storeC (y' := ((Tag.mk (0 : Int) (0 : Int)) : Tag)) ty31 rfl rfl (fun _ _ h => h) .here rfl (oA rfl ?_)))))
   refine oA rfl (oA rfl (oA rfl (rnf (w_ret ?_))))
   refine ret_nxt (ret_post (.cell rfl .here ty31 (.tmp rfl (.tmp rfl (.tmp rfl (.tmp rfl .nil))))) .nil ?_)
   obtain rfl := Option.some.inj h
   exact ⟨rfl, rfl⟩
  ·
   refine wkf (wsr (oM rfl (oM rfl (ck_inv h fun q3 h => ?_))))
   refine oV (v_add rfl rfl q3) (asd_inv h fun q4 h => oV (v_sl (l := a_b) rfl (fun _ _ h => h) sl42 (.inr ⟨_, rfl, rfl⟩) (.inl ⟨rfl, rfl⟩) q4.1 q4.2.1 q4.2.2) (cal_inv h fun y5 hy5 h => oT (t_call (tlv_length_w hy5) hT (.same rfl .nil) .nil (fun R H' hR => ?_))))
   obtain ⟨rfl, rfl⟩ := hR
   refine oM rfl (oV (v_extract rfl rfl) (oV (v_extract rfl rfl) (oV (v_extract rfl rfl) (oA rfl ?_))))
   refine oA rfl (oA rfl (rnf (w_seq (wsr ?_))))
   refine oM rfl (oV (v_neq rfl rfl) (rnf (w_condM h rfl (fun _ h => ?_) (fun _ h => ?_))))
   ·
    refine wsr (oV (v_build (z := (Tag.mk (0 : Int) (0 : Int))) rfl bu31 ze31 .nil) (oM rfl (oT (t_storeC (y' := ((Tag.mk (0 : Int) (0 : Int)) : Tag)) ty31 rfl rfl (fun _ _ h => h) .here rfl (oA rfl ?_)))))
    refine oA rfl (oA rfl (oA rfl (rnf (w_ret ?_))))
    refine ret_nxt (ret_post (.cell rfl .here ty31 (.tmp rfl (.tmp rfl (.tmp rfl (.tmp rfl .nil))))) .nil ?_)
    obtain rfl := Option.some.inj h
    exact ⟨rfl, rfl⟩
   ·
    refine wkf (w_seq (w_regionD (.v 0 (.v 1 (.v 2 (.v 3 (.v 4 (.v 5 (.v 6 (.v 7 (.v 8 (.v 9 (.v 10 (.v 11 (.v 12 (.v 13 (.v 14 (.v 15 (.v 16 (.t 17 (.v 18 (.v 19 (.v 20 (.v 21 .nil)))))))))))))))))))))) moOrd (by kernel_rfl) ?_))
    refine rvm rfl rfl (cal_inv h fun y6 hy6 h => rd_v rfl (v_ix (l := a_b) rfl (fun _ _ h => h) rfl sl42 hy6) (rd_v rfl (v_loadI ty5 rfl) (asr_inv h fun q7 h => ?_)))
    refine rd_v rfl (v_shr8 rfl rfl q7) (rd_v rfl (v_u8i Tryz.underlying5 Tryz.underlying3 rfl) (rvm rfl rfl (rd_v rfl (v_build (z := (Tag.mk ((shr8 y6 (6 : UInt64).toNat).toNat : Int) y2.1)) rfl bu31 ze31 (.cons Tag.f0 fd31_0 rfl (fun _ _ h => h) (.cons Tag.f1 fd31_1 rfl (fun _ _ h => h) .nil))) (rvm rfl rfl ?_))))
    refine cal_inv h fun y8 hy8 h => rd_v rfl (v_ix (l := a_b) rfl (fun _ _ h => h) rfl sl42 hy8) (rd_v rfl (v_loadI ty5 rfl) (rd_v rfl (v_and8 rfl rfl) (rd_v rfl (v_neA eq5 rfl rfl) ?_)))
    refine rvm rfl rfl (rvm rfl rfl (ck_inv h fun q9 h => rd_v rfl (v_add rfl rfl q9) (rvm rfl rfl ?_)))
    refine ck_inv h fun q10 h => rd_v rfl (v_add rfl rfl q10) (rd_t rfl rfl (t_storeC (y' := ((Tag.mk ((shr8 y6 (6 : UInt64).toNat).toNat : Int) y2.1) : Tag)) ty31 rfl rfl (fun _ _ h => h) .here rfl (rd_v rfl (v_assign rfl) (rd_v rfl (v_assign rfl) ?_))))
    refine rd_v rfl (v_assign rfl) (rd_v rfl (v_assign rfl) (rd_nil (fin_nxt (w_ret ?_))))
    refine ret_post (.cell rfl .here ty31 (.tmp rfl (.tmp rfl (.tmp rfl (.tmp rfl .nil))))) .nil ?_
    obtain rfl := Option.some.inj h
    exact ⟨rfl, rfl⟩


theorem tlv_Take_w : ∀ {a_b : (List UInt8)} {r : Tag × Bool × (List UInt8) × Int × Int}, tlv_Take a_b = some r → Ctr Tryz.prog 158 [isv (a_b)] [] (fun R H => R = oneOf [isv (r.1), isv (r.2.1), isv (r.2.2.1), isv (r.2.2.2.1), isv (r.2.2.2.2)] ∧ H = []) := by
 intro a_b r h
 unfold tlv_Take at h
 refine spec_intro Tryz.func158 rfl (by decide +kernel) (by rfl) fun w0 S0 hT => ?_
 refine wsr (oT (t_alloc _ ze31 fun b1 => oA rfl (oA rfl (oA rfl ?_))))
 refine oA rfl (rnf (wsr (oM rfl (cal_inv h fun y2 hy2 h => ?_))))
 refine oT (t_call (tlv_TakeHead_w hy2) hT (.same rfl .nil) .nil (fun R H' hR => ?_))
 obtain ⟨rfl, rfl⟩ := hR
 refine oM rfl (oV (v_extract rfl rfl) (oV (v_extract rfl rfl) (oV (v_extract rfl rfl) (oV (v_extract rfl rfl) ?_))))
 refine oV (v_extract rfl rfl) (oT (t_alloc _ ze31 fun b3 => oT (t_storeC (y' := (y2.1 : Tag)) ty31 rfl rfl (fun _ _ h => h) .here rfl (rl_upd (upd_imm 7 .here rfl) (oA rfl ?_)))))
 refine oA rfl (oA rfl (oA rfl (rnf (w_seq ?_))))
 refine wsr (oM rfl (oV (v_eql rfl rfl) (oM rfl (rl_j (jb 29) je .nil h 7 rfl (fun q4 g4 h => ?_) (fun J5 h hJ5 => ?_)))))
 ·
  refine rnf (w_J (ι := Int) (γ := Unit) (fun q8 g8 => [(11, isv (q8))]) (fun q8 g8 => []) .nil h (fun q8 g8 h => ?_) (fun J9 h hJ9 => ?_))
  ·
   refine w_seq (wsr (oM rfl (oV (v_neq rfl rfl) (rnf ?_))))
   refine w_condM h rfl (fun _ h => ?_) (fun _ h => ?_)
   ·
    refine wsr (oV (v_build (z := (Tag.mk (0 : Int) (0 : Int))) rfl bu31 ze31 .nil) (oM rfl (oT (t_storeC (y' := ((Tag.mk (0 : Int) (0 : Int)) : Tag)) ty31 rfl rfl (fun _ _ h => h) .here rfl (oA rfl ?_)))))
    refine oA rfl (oA rfl (oA rfl (rnf (w_ret ?_))))
    refine ret_nxt (ret_post (.cell rfl .here ty31 (.tmp rfl (.as rfl (nilv_isv (α := UInt8)) (.tmp rfl (.tmp rfl .nil))))) .nil ?_)
    obtain rfl := Option.some.inj h
    exact ⟨rfl, rfl⟩
   ·
    refine wkf (w_seq (w_regionD (.v 0 (.v 1 (.v 2 (.v 3 (.v 4 (.v 5 (.v 6 (.v 7 (.v 9 (.v 10 (.v 11 (.t 8 (.t 12 (.v 13 (.v 14 (.v 15 (.v 16 .nil))))))))))))))))) moOrd (by kernel_rfl) ?_))
    refine rd_v rfl (v_loadI ty31 rfl) (rvm rfl rfl (rvm rfl rfl (rvm rfl rfl (rvm rfl rfl ?_))))
    refine rvm rfl rfl (ck_inv h fun q10 h => rd_v rfl (v_add rfl rfl q10) (asd_inv h fun q11 h => rd_v rfl (v_sl (l := a_b) rfl (fun _ _ h => h) sl42 (.inr ⟨_, rfl, rfl⟩) (.inr ⟨_, rfl, rfl⟩) q11.1 q11.2.1 q11.2.2) ?_))
    refine rvm rfl rfl (rvm rfl rfl (ck_inv h fun q12 h => rd_v rfl (v_add rfl rfl q12) (asr_inv h fun q14 h => ?_)))
    refine rd_t rfl rfl (t_appN (m := ((a_b.take ((y2.2.2.2.1 + y2.2.2.1)).toNat).drop (y2.2.2.2.1).toNat)) ap42_42 rfl rfl (fun _ _ h => h) q14 fun t13 => rd_t rfl rfl (t_storeC (y' := (y2.1 : Tag)) ty31 rfl rfl (fun _ _ h => h) (.there .here) rfl (rd_v rfl (v_assign rfl) (rd_v rfl (v_assign rfl) (rd_v rfl (v_assign rfl) ?_)))))
    refine rd_v rfl (v_assign rfl) (rd_nil (fin_nxt (w_ret (ret_post (.cell rfl .here ty31 (.tmp rfl (.as rfl appv_isv (.tmp rfl (.tmp rfl .nil))))) .nil ?_))))
    obtain rfl := Option.some.inj h
    exact ⟨rfl, rfl⟩
  ·
   refine w_condM h rfl (fun _ h => ?_) (fun _ h => ?_)
   ·
    exact w_region (oA rfl (rl_nil (hJ9 _ () h _ (join_imp 1 rfl rfl (mod_cons (j := 11) rfl (fun _ _ h => h) mod_nil) (.cons .here .nil)))))
   ·
    exact w_skip (hJ9 _ () h _ (join_imp 0 rfl rfl (mod_cons (j := 11) rfl (fun _ _ h => h) mod_nil) (.cons .here .nil)))
 ·
  refine rl_condM (j := 22) h rfl (fun g6 h => ?_) (fun g6 h => ?_)
  ·
   refine oK 22 rfl rfl rfl g6 (v_move rfl) (oK 22 rfl rfl rfl g6 (v_move rfl) (oK 22 rfl rfl rfl g6 (v_ln (l := a_b) rfl (fun _ _ h => h) sl42) (oK 22 rfl rfl rfl g6 (v_move rfl) (ck_inv h fun q7 h => ?_))))
   exact oK 22 rfl rfl rfl g6 (v_sub rfl rfl q7) (oK 22 rfl rfl rfl g6 (v_gtr rfl rfl) (oV (v_pick_t rfl g6 rfl) (hJ5 _ () h _ (join_imp 7 rfl rfl (mod_cons (j := 29) rfl (fun _ _ h => h) mod_nil) (.cons .here .nil)))))
  ·
   refine oP 22 rfl rfl g6 (oP 22 rfl rfl g6 (oP 22 rfl rfl g6 (oP 22 rfl rfl g6 (oP 22 rfl rfl g6 ?_))))
   exact oP 22 rfl rfl g6 (oV (v_pick_f rfl g6 rfl) (hJ5 _ () h _ (join_imp 7 rfl rfl (mod_cons (j := 29) rfl (fun _ _ h => h) mod_nil) (.cons .here .nil))))


theorem table_Loose_w : ∀ {a_t : GTyp} {a_k : Int} {r : Bool}, table_Loose a_t a_k = some r → Ctr Tryz.prog 127 [isv (a_t), isv (a_k)] [] (fun R H => R = oneOf [isv (r)] ∧ H = []) := by
 intro a_t a_k r h
 unfold table_Loose at h
 refine spec_intro Tryz.func127 rfl (by decide +kernel) (by rfl) fun w0 S0 hT => ?_
 refine wsr (oT (t_boxIC (y := a_t) rfl (fun _ _ h => h) (oA rfl (rnf (wsr ?_)))))
 refine oV (v_fi rfl GTyp.f4 fd87_4 rfl (z := a_t.fields)) (oV (v_loadI ty85 rfl) (oM rfl (cal_inv h fun y1 hy1 h => oV (v_ix (l := a_t.fields) rfl (fun _ _ h => h) rfl sl85 hy1) ?_)))
 refine oV (v_fi rfl GFld.f2 fd92_2 rfl (z := y1.optional)) (oV (v_loadI ty4 rfl) (oM rfl (rl_j (jb 18) je .nil h 7 rfl (fun q2 g2 h => ?_) (fun J3 h hJ3 => ?_))))
 ·
  refine oM rfl (rl_j (jb 24) je .nil h 5 rfl (fun q6 g6 h => ?_) (fun J7 h hJ7 => ?_))
  ·
   refine oA rfl (rnf (w_ret (ret_post (.tmp rfl .nil) .nil ?_)))
   obtain rfl := Option.some.inj h
   exact ⟨rfl, rfl⟩
  ·
   refine rl_condM (j := 19) h rfl (fun g8 h => ?_) (fun g8 h => ?_)
   ·
    refine oP 19 rfl rfl g8 (oP 19 rfl rfl g8 (oP 19 rfl rfl g8 (oP 19 rfl rfl g8 (oV (v_pick_t rfl g8 rfl) ?_))))
    exact hJ7 _ () h _ (ji 5 24 rfl rfl rfl)
   ·
    refine oK 19 rfl rfl rfl g8 (v_move rfl) (oK 19 rfl rfl rfl g8 (v_fi rfl GTyp.f5 fd87_5 rfl (z := a_t.root)) (oK 19 rfl rfl rfl g8 (v_loadI ty3 rfl) (oK 19 rfl rfl rfl g8 (v_geq rfl rfl) (oV (v_pick_f rfl g8 rfl) ?_))))
    exact hJ7 _ () h _ (ji 5 24 rfl rfl rfl)
 ·
  refine rl_condM (j := 11) h rfl (fun g4 h => ?_) (fun g4 h => ?_)
  ·
   refine oP 11 rfl rfl g4 (oP 11 rfl rfl g4 (oP 11 rfl rfl g4 (oP 11 rfl rfl g4 (oP 11 rfl rfl g4 ?_))))
   exact oP 11 rfl rfl g4 (oV (v_pick_t rfl g4 rfl) (hJ3 _ () h _ (ji 7 18 rfl rfl rfl)))
  ·
   refine oK 11 rfl rfl rfl g4 (v_fi rfl GTyp.f4 fd87_4 rfl (z := a_t.fields)) (oK 11 rfl rfl rfl g4 (v_loadI ty85 rfl) (oK 11 rfl rfl rfl g4 (v_move rfl) (cal_inv h fun y5 hy5 h => oK 11 rfl rfl rfl g4 (v_ix (l := a_t.fields) rfl (fun _ _ h => h) rfl sl85 hy5) ?_)))
   exact oK 11 rfl rfl rfl g4 (v_fi rfl GFld.f3 fd92_3 rfl (z := y5.has)) (oK 11 rfl rfl rfl g4 (v_loadI ty4 rfl) (oV (v_pick_f rfl g4 rfl) (hJ3 _ () h _ (ji 7 18 rfl rfl rfl))))


theorem table_Last_w : ∀ {a_t : GTyp} {r : Int}, table_Last a_t = some r → Ctr Tryz.prog 159 [isv (a_t)] [] (fun R H => R = oneOf [isv (r)] ∧ H = []) := by
 intro a_t r h
 unfold table_Last at h
 refine spec_intro Tryz.func159 rfl (by decide +kernel) (by rfl) fun w0 S0 hT => ?_
 refine wsr (oT (t_boxIC (y := a_t) rfl (fun _ _ h => h) (oA rfl (rnf (wsr ?_)))))
 refine oV (v_fi rfl GTyp.f5 fd87_5 rfl (z := a_t.root)) (oV (v_loadI ty3 rfl) (oV (v_max rfl rfl) (oV (v_fi rfl GTyp.f4 fd87_4 rfl (z := a_t.fields)) (oV (v_loadI ty85 rfl) ?_))))
 refine oV (v_ln (l := a_t.fields) rfl (fun _ _ h => h) sl85) (oV (v_min rfl rfl) (oA rfl (rnf (w_seq ?_))))
 refine w_block (w_lp (ι := Int) (γ := Unit) (fun q1 g1 => [(3, isv (q1))]) (fun q1 g1 => []) h () (mod_cons (j := 3) rfl (fun _ _ h => h) mod_nil) .nil (fun L2 q1 g1 Q15 h hL2 eL2 rL2 => w_seq (wsr (oM rfl ?_))))
 refine oV (v_gtr rfl rfl) (oM rfl (rl_j (jb 18) je .nil h 5 rfl (fun q9 g9 h => ?_) (fun J10 h hJ10 => ?_)))
 ·
  refine rnf (w_condM h rfl (fun _ h => ?_) (fun _ h => ?_))
  ·
   refine wkf (w_block (w_region (oM rfl (ck_inv h fun q14 h => ?_))))
   exact oV (v_sub rfl rfl q14) (oA rfl (rl_nil (fin_block (hL2 _ () h _ (ji 8 3 rfl rfl rfl)))))
  ·
   refine w_exit (exi_nxt (eL2 _ _ (exi_block (fin_nxt ?_))))
   refine wsr (oM rfl (oA rfl (rnf (w_ret ?_))))
   refine ret_post (.tmp rfl .nil) .nil ?_
   obtain rfl := Option.some.inj h
   exact ⟨rfl, rfl⟩
 ·
  refine rl_condM (j := 13) h rfl (fun g11 h => ?_) (fun g11 h => ?_)
  ·
   refine oK 13 rfl rfl rfl g11 (v_loadI ty87 rfl) (oK 13 rfl rfl rfl g11 (v_move rfl) (ck_inv h fun q12 h => oK 13 rfl rfl rfl g11 (v_sub rfl rfl q12) (cal_inv h fun y13 hy13 h => ?_)))
   refine op_take rfl rfl (dj := 13) rfl g11 (t_call (table_Loose_w hy13) hT (.same rfl (.same rfl .nil)) .nil (fun R H' hR => ?_))
   obtain ⟨rfl, rfl⟩ := hR
   exact oV (v_pick_t rfl g11 rfl) (hJ10 _ () h _ (ji 5 18 rfl rfl rfl))
  ·
   refine oP 13 rfl rfl g11 (oP 13 rfl rfl g11 (oP 13 rfl rfl g11 (oP 13 rfl rfl g11 (oV (v_pick_f rfl g11 rfl) ?_))))
   exact hJ10 _ () h _ (ji 5 18 rfl rfl rfl)


theorem table_types_begins_c1_w : ∀ {a_x : GTyp} {a_a1 : (List Tag)} {b_a_a1 : Nat} {t_a_a11 : Tok} {r : (List Tag)}, table_types_begins_c1 a_x a_a1 = some r → Ctr Tryz.prog 117 [isv (a_x), ptrv b_a_a1 (Fld.id (TList Tag))] [boxE b_a_a1 ((TList.mk t_a_a11 a_a1) : (TList Tag)), tokE t_a_a11] (fun R H => ∃ u1 : Tok, R = oneOf [] ∧ H = [boxE b_a_a1 ((TList.mk u1 r)), tokE u1]) := by
 intro a_x a_a1 b_a_a1 t_a_a11 r h
 unfold table_types_begins_c1 at h
 refine spec_intro Tryz.func117 rfl (by decide +kernel) (by rfl) fun w0 S0 hT => ?_
 refine wsr (oT (t_boxIC (y := a_x) rfl (fun _ _ h => h) (rnf (wsr (oV (v_fi rfl GTyp.f1 fd87_1 rfl (z := a_x.tags)) ?_)))))
 refine oV (v_loadI ty78 rfl) (oV (v_ln (l := a_x.tags) rfl (fun _ _ h => h) sl78) (oV (v_gtr rfl rfl) (rnf (w_condM h rfl (fun _ h => ?_) (fun _ h => ?_)))))
 ·
  refine w_regionD (.v 1 (.v 2 (.v 3 (.v 4 (.alt 0 (.t 5 (.t 6 (.t 7 .nil))) (.t 5 (.t 0 (.t 6 (.t 7 .nil))))))))) moOrd (by kernel_rfl) ?_
  refine rd_v rfl (v_fi rfl GTyp.f1 fd87_1 rfl (z := a_x.tags)) (rd_v rfl (v_loadI ty78 rfl) (cal_inv h fun y2 hy2 h => rd_v rfl (v_ix (l := a_x.tags) rfl (fun _ _ h => h) rfl sl78 hy2) (rd_v rfl (v_loadI ty31 rfl) ?_)))
  refine asr_inv h fun q5 h => rd_two ?_ ?_
  ·
   refine rd_t rfl rfl (t_loadC (R := appv t_a_a11 (a_a1)) ty78 rfl .here isvT1 (rd_t rfl rfl (t_buildSlice (l := ([y2] : (List Tag))) el78 (.cons rfl (fun _ _ h => h) .nil) rfl rfl (rd_t rfl rfl (t_appC (l := a_a1) (m := ([y2] : (List Tag))) ap78_78 rfl (fun _ _ h => h) rfl appv_isv (.there .here) q5 fun t4 => rd_t rfl rfl (t_storeC (y' := ((TList.mk t4 (a_a1 ++ ([y2] : (List Tag)))) : (TList Tag))) ty78 rfl rfl isvT2 (.there .here) rfl (rd_nil ?_)))))))
   refine fin_post .nil (.cons .here (.cons .here .nil)) ?_
   obtain rfl := Option.some.inj h
   exact ⟨t4, rfl, rfl⟩
  ·
   refine rd_t rfl rfl (t_buildSlice (l := ([y2] : (List Tag))) el78 (.cons rfl (fun _ _ h => h) .nil) rfl rfl (rd_t rfl rfl (t_loadC (R := appv t_a_a11 (a_a1)) ty78 rfl .here isvT1 (rd_t rfl rfl (t_appC (l := a_a1) (m := ([y2] : (List Tag))) ap78_78 rfl (fun _ _ h => h) rfl appv_isv (.there .here) q5 fun t7 => rd_t rfl rfl (t_storeC (y' := ((TList.mk t7 (a_a1 ++ ([y2] : (List Tag)))) : (TList Tag))) ty78 rfl rfl isvT2 (.there .here) rfl (rd_nil ?_)))))))
   refine fin_post .nil (.cons .here (.cons .here .nil)) ?_
   obtain rfl := Option.some.inj h
   exact ⟨t7, rfl, rfl⟩
 ·
  refine w_skip (fin_post .nil (.cons .here (.cons .here .nil)) ?_)
  obtain rfl := Option.some.inj h
  exact ⟨t_a_a11, rfl, rfl⟩


def table_types_inner_C (f' : GTys → Int → Int → (List Tag) → Option (GTys × Int × (List Tag))) : Prop :=
 ∀ {a_t : GTys} {a_at_ : Int} {a_left : Int} {a_do__0 : (List Tag)} {b_a_t : Nat} {b_a_left : Nat} {b_a_do__0 : Nat} {t_a_do__01 : Tok} {r : GTys × Int × (List Tag)}, f' a_t a_at_ a_left a_do__0 = some r → Ctr Tryz.prog 116 [ptrv b_a_t (Fld.id GTys), isv (a_at_), ptrv b_a_left (Fld.id Int), clov 117 [ptrv b_a_do__0 (Fld.id (TList Tag))]] [boxE b_a_t (a_t : GTys), boxE b_a_left (a_left : Int), boxE b_a_do__0 ((TList.mk t_a_do__01 a_do__0) : (TList Tag)), tokE t_a_do__01] (fun R H => ∃ u1 : Tok, R = oneOf [] ∧ H = [boxE b_a_t (r.1), boxE b_a_left (r.2.1), boxE b_a_do__0 ((TList.mk u1 r.2.2)), tokE u1])
theorem table_types_inner_w0 {table_types_inner' : GTys → Int → Int → (List Tag) → Option (GTys × Int × (List Tag))} (h_table_types_inner : table_types_inner_C table_types_inner') : ∀ {a_t : GTys} {a_at_ : Int} {a_left : Int} {a_do__0 : (List Tag)} {b_a_t : Nat} {b_a_left : Nat} {b_a_do__0 : Nat} {t_a_do__01 : Tok} {r : GTys × Int × (List Tag)}, table_types_inner_F table_types_inner' a_t a_at_ a_left a_do__0 = some r → Ctr Tryz.prog 116 [ptrv b_a_t (Fld.id GTys), isv (a_at_), ptrv b_a_left (Fld.id Int), clov 117 [ptrv b_a_do__0 (Fld.id (TList Tag))]] [boxE b_a_t (a_t : GTys), boxE b_a_left (a_left : Int), boxE b_a_do__0 ((TList.mk t_a_do__01 a_do__0) : (TList Tag)), tokE t_a_do__01] (fun R H => ∃ u1 : Tok, R = oneOf [] ∧ H = [boxE b_a_t (r.1), boxE b_a_left (r.2.1), boxE b_a_do__0 ((TList.mk u1 r.2.2)), tokE u1]) := by
 intro a_t a_at_ a_left a_do__0 b_a_t b_a_left b_a_do__0 t_a_do__01 r h
 unfold table_types_inner_F at h
 refine spec_intro Tryz.func116 rfl (by decide +kernel) (by rfl) fun w0 S0 hT => ?_
 refine w_seq (wsr (oM rfl (oV (v_lss rfl rfl) (oM rfl ?_))))
 refine rl_j (jb 21) je .nil h 8 rfl (fun q2 g2 h => ?_) (fun J3 h hJ3 => ?_)
 ·
  refine oM rfl (rl_j (jb 27) je .nil h 5 rfl (fun q5 g5 h => ?_) (fun J6 h hJ6 => ?_))
  ·
   refine rnf (w_condM h rfl (fun _ h => ?_) (fun _ h => ?_))
   ·
    refine w_ret (ret_nxt (ret_post .nil (.cons .here (.cons .here (.cons .here (.cons .here .nil)))) ?_))
    obtain rfl := Option.some.inj h
    exact ⟨t_a_do__01, rfl, rfl⟩
   ·
    refine wkf (wsr (oM rfl (oV (v_nilCheck rfl) (oT (t_loadC (R := isv (a_left)) ty3 rfl (.there .here) (fun _ _ h => h) ?_)))))
    refine ck_inv h fun q8 h => oV (v_sub rfl rfl q8) (oV (v_nilCheck rfl) (oT (t_storeC (y' := ((a_left - (1 : Int)) : Int)) ty3 rfl rfl (fun _ _ h => h) (.there .here) rfl (rnf ?_))))
    refine wsr (oM rfl (oV (v_nilCheck rfl) (oV (v_fa rfl GTys.f0 fd144_0) (oT (t_loadC (R := isv (a_t.l)) ty24 rfl (.there .here) (fun _ _ h => h) ?_)))))
    refine oM rfl (cal_inv h fun y9 hy9 h => oV (v_ix (l := a_t.l) rfl (fun _ _ h => h) rfl sl24 hy9) (oV (v_loadI ty87 rfl) (oT (t_alloc _ ze87 fun b10 => ?_))))
    refine oT (t_storeC (y' := (y9 : GTyp)) ty87 rfl rfl (fun _ _ h => h) .here rfl (rl_upd (upd_imm 8 .here rfl) (rnf (wsr (oM rfl ?_)))))
    refine oV (v_loadI ty87 rfl) (cal_inv h fun y11 hy11 h => oT (t_callC rfl (.same rfl .nil) (table_types_begins_c1_w hy11) hT (.cons (.there (.there .here)) (.cons (.there (.there .here)) .nil)) (fun R H' hR => ?_)))
    obtain ⟨t12, rfl, rfl⟩ := hR
    refine rnf (w_seq (wsr (oV (v_fi rfl GTyp.f1 fd87_1 rfl (z := y9.tags)) (oV (v_loadI ty78 rfl) ?_))))
    refine oV (v_ln (l := y9.tags) rfl (fun _ _ h => h) sl78) (oV (v_gtr rfl rfl) (rnf (w_condM h rfl (fun _ h => ?_) (fun _ h => ?_))))
    ·
     refine w_ret (ret_nxt (ret_post .nil (.cons (.there (.there (.there .here))) (.cons (.there (.there .here)) (.cons .here (.cons .here .nil)))) ?_))
     obtain rfl := Option.some.inj h
     exact ⟨t12, rfl, rfl⟩
    ·
     refine wkf (wsr (oV (v_fi rfl GTyp.f4 fd87_4 rfl (z := y9.fields)) (oV (v_loadI ty85 rfl) (oV (v_ln (l := y9.fields) rfl (fun _ _ h => h) sl85) ?_))))
     refine oM rfl (rnf (w_block (w_lp (ι := Int × (List Tag) × Int × GTys) (γ := Tok) (fun q13 g13 => [(50, isv (q13.1))]) (fun q13 g13 => [boxE b_a_do__0 ((TList.mk g13 q13.2.1) : (TList Tag)), tokE g13, boxE b_a_left (q13.2.2.1 : Int), boxE b_a_t (q13.2.2.2 : GTys)]) h (t12) (mod_cons (j := 50) rfl (fun _ _ h => h) mod_nil) (.cons .here (.cons .here (.cons .here (.cons .here .nil)))) (fun L14 q13 g13 Q25 h hL14 eL14 rL14 => wsr ?_))))
     refine oV (v_lss rfl rfl) (rnf (w_seq (w_condM h rfl (fun _ h => ?_) (fun _ h => ?_))))
     ·
      refine wkf (w_seq (w_block (wsr (cal_inv h fun y20 hy20 h => ?_))))
      refine oV (v_ix (l := y9.fields) rfl (fun _ _ h => h) rfl sl85 hy20) (oV (v_loadI ty92 rfl) (oT (t_alloc _ ze92 fun b21 => oT (t_storeC (y' := (y20 : GFld)) ty92 rfl rfl (fun _ _ h => h) .here rfl (rl_upd (upd_imm 10 .here rfl) ?_)))))
      refine rnf (w_region (oM rfl (oV (v_fi rfl GFld.f1 fd92_1 rfl (z := y20.ty)) (oV (v_loadI ty3 rfl) ?_))))
      refine oM rfl (oM rfl (cal_inv h fun y22 hy22 h => oT (t_call (h_table_types_inner hy22) hT (.same rfl (.same rfl (.same rfl (.same rfl .nil)))) (.cons (.there (.there (.there .here))) (.cons (.there (.there .here)) (.cons .here (.cons .here .nil)))) (fun R H' hR => ?_))))
      obtain ⟨t23, rfl, rfl⟩ := hR
      refine rl_nil (fin_block (fin_nxt (w_region (ck_inv h fun q24 h => ?_))))
      exact oV (v_add rfl rfl q24) (oM rfl (rl_nil (hL14 _ (t23) h _ (join_imp 14 rfl rfl (mod_cons (j := 50) rfl (fun _ _ h => h) mod_nil) (.cons (.there (.there .here)) (.cons (.there (.there .here)) (.cons (.there .here) (.cons .here .nil))))))))
     ·
      refine w_exit (exi_nxt (eL14 _ _ (exi_block (fin_post .nil (.cons (.there (.there (.there .here))) (.cons (.there (.there .here)) (.cons .here (.cons .here .nil)))) ?_))))
      obtain rfl := Option.some.inj h
      exact ⟨g13, rfl, rfl⟩
  ·
   refine rl_condM (j := 22) h rfl (fun g7 h => ?_) (fun g7 h => ?_)
   ·
    refine oP 22 rfl rfl g7 (oP 22 rfl rfl g7 (oP 22 rfl rfl g7 (oP 22 rfl rfl g7 (oV (v_pick_t rfl g7 rfl) ?_))))
    exact hJ6 _ () h _ (join_imp 5 rfl rfl (mod_cons (j := 27) rfl (fun _ _ h => h) mod_nil) (.cons .here (.cons .here (.cons .here (.cons .here .nil)))))
   ·
    refine oK 22 rfl rfl rfl g7 (v_move rfl) (oK 22 rfl rfl rfl g7 (v_nilCheck rfl) (op_take rfl rfl (dj := 22) rfl g7 (t_loadC (R := isv (a_left)) ty3 rfl (.there .here) (fun _ _ h => h) (oK 22 rfl rfl rfl g7 (v_eql rfl rfl) (oV (v_pick_f rfl g7 rfl) ?_)))))
    exact hJ6 _ () h _ (join_imp 5 rfl rfl (mod_cons (j := 27) rfl (fun _ _ h => h) mod_nil) (.cons .here (.cons .here (.cons .here (.cons .here .nil)))))
 ·
  refine rl_condM (j := 13) h rfl (fun g4 h => ?_) (fun g4 h => ?_)
  ·
   refine oP 13 rfl rfl g4 (oP 13 rfl rfl g4 (oP 13 rfl rfl g4 (oP 13 rfl rfl g4 (oP 13 rfl rfl g4 ?_))))
   exact oP 13 rfl rfl g4 (oP 13 rfl rfl g4 (oV (v_pick_t rfl g4 rfl) (hJ3 _ () h _ (join_imp 8 rfl rfl (mod_cons (j := 21) rfl (fun _ _ h => h) mod_nil) (.cons .here (.cons .here (.cons .here (.cons .here .nil))))))))
  ·
   refine oK 13 rfl rfl rfl g4 (v_move rfl) (oK 13 rfl rfl rfl g4 (v_move rfl) (oK 13 rfl rfl rfl g4 (v_nilCheck rfl) (oK 13 rfl rfl rfl g4 (v_fa rfl GTys.f0 fd144_0) (op_take rfl rfl (dj := 13) rfl g4 (t_loadC (R := isv (a_t.l)) ty24 rfl .here (fun _ _ h => h) ?_)))))
   exact oK 13 rfl rfl rfl g4 (v_ln (l := a_t.l) rfl (fun _ _ h => h) sl24) (oK 13 rfl rfl rfl g4 (v_geq rfl rfl) (oV (v_pick_f rfl g4 rfl) (hJ3 _ () h _ (join_imp 8 rfl rfl (mod_cons (j := 21) rfl (fun _ _ h => h) mod_nil) (.cons .here (.cons .here (.cons .here (.cons .here .nil))))))))

theorem table_types_inner_grp_w : ∀ n, table_types_inner_C (table_types_inner n)
 | 0 => fun h => (by cases h)
 | n + 1 => table_types_inner_w0 (table_types_inner_grp_w n)
theorem table_types_inner_w (n : Nat) : table_types_inner_C (table_types_inner n) := (table_types_inner_grp_w n)

theorem table_types_begins_w : ∀ {a_t : GTys} {a_at_ : Int} {b_a_t : Nat} {r : (List Tag) × GTys}, table_types_begins a_t a_at_ = some r → Ctr Tryz.prog 78 [ptrv b_a_t (Fld.id GTys), isv (a_at_)] [boxE b_a_t (a_t : GTys)] (fun R H => R = oneOf [isv (r.1)] ∧ H = [boxE b_a_t (r.2)]) := by
 intro a_t a_at_ b_a_t r h
 unfold table_types_begins at h
 refine spec_intro Tryz.func78 rfl (by decide +kernel) (by rfl) fun w0 S0 hT => ?_
 refine wsr (oA rfl (rnf (wsr (oT (t_alloc _ zt78_4 fun b1 => ?_)))))
 refine rl_upd (upd_tok) (rnf (wsr (oT (t_alloc _ ze3 fun b3 => oT (t_storeC (y' := ((300 : Int) : Int)) ty3 rfl rfl (fun _ _ h => h) .here rfl ?_)))))
 refine rnf (wsr (oM rfl (oM rfl (oV (v_makeFunc (.same rfl .nil)) ?_))))
 refine cal_inv h fun y4 hy4 h => oT (t_call (table_types_inner_w fuel hy4) hT (.same rfl (.same rfl (.same rfl (.same rfl .nil)))) (.cons (.there (.there (.there .here))) (.cons .here (.cons (.there .here) (.cons .here .nil)))) (fun R H' hR => ?_))
 obtain ⟨t5, rfl, rfl⟩ := hR
 refine rnf (wsr (oT (t_loadC (R := appv t5 (y4.2.2)) ty78 rfl (.there (.there .here)) isvT1 (oA rfl (rnf ?_)))))
 refine w_ret (ret_post (.as rfl appv_isv .nil) (.cons .here .nil) ?_)
 obtain rfl := Option.some.inj h
 exact ⟨rfl, rfl⟩


theorem table_Begins_w : ∀ {a_t : GTab} {a_i : Int} {r : (List Tag)}, table_Begins a_t a_i = some r → Ctr Tryz.prog 41 [isv (a_t), isv (a_i)] [] (fun R H => R = oneOf [isv (r)] ∧ H = []) := by
 intro a_t a_i r h
 unfold table_Begins at h
 refine spec_intro Tryz.func41 rfl (by decide +kernel) (by rfl) fun w0 S0 hT => ?_
 refine wsr (oT (t_boxIC (y := a_t) rfl (fun _ _ h => h) (oA rfl (rnf (wsr ?_)))))
 refine oV (v_fi rfl GTab.f3 fd26_3 rfl (z := a_t.types)) (oV (v_loadI ty24 rfl) (oV (v_build (z := (GTys.mk a_t.types)) rfl bu144 ze144 (.cons GTys.f0 fd144_0 rfl (fun _ _ h => h) .nil)) (oT (t_boxC (y := (GTys.mk a_t.types)) rfl (fun _ _ h => h) fun b1 => oA rfl ?_))))
 refine rnf (wsr (oM rfl (oM rfl (cal_inv h fun y2 hy2 h => ?_))))
 refine oT (t_call (table_types_begins_w hy2) hT (.same rfl (.same rfl .nil)) (.cons .here .nil) (fun R H' hR => ?_))
 obtain ⟨rfl, rfl⟩ := hR
 refine oA rfl (rnf (w_ret (ret_post (.tmp rfl .nil) .nil ?_)))
 obtain rfl := Option.some.inj h
 exact ⟨rfl, rfl⟩


theorem slices_Index_Lapi_Tag_api_Tag_w : ∀ {a_s : (List Tag)} {a_v : Tag} {r : Int}, slices_Index_Lapi_Tag_api_Tag a_s a_v = some r → Ctr Tryz.prog 180 [isv (a_s), isv (a_v)] [] (fun R H => R = oneOf [isv (r)] ∧ H = []) := by
 intro a_s a_v r h
 unfold slices_Index_Lapi_Tag_api_Tag at h
 refine spec_intro Tryz.func180 rfl (by decide +kernel) (by rfl) fun w0 S0 hT => ?_
 refine wsr (oT (t_boxIC (y := a_v) rfl (fun _ _ h => h) (oA rfl (rnf (w_seq ?_)))))
 refine wsr (oM rfl (oV (v_ln (l := a_s) rfl (fun _ _ h => h) sl78) (oM rfl (rnf ?_))))
 refine w_block (w_lp (ι := Int) (γ := Unit) (fun q1 g1 => [(8, isv (q1))]) (fun q1 g1 => []) h () (mod_cons (j := 8) rfl (fun _ _ h => h) mod_nil) .nil (fun L2 q1 g1 Q7 h hL2 eL2 rL2 => wsr (oV (v_lss rfl rfl) (rnf ?_))))
 refine w_seq (w_condM h rfl (fun _ h => ?_) (fun _ h => ?_))
 ·
  refine wkf (w_seq (w_block (wsr (oM rfl ?_))))
  refine oA rfl (rnf (w_seq (w_regionD (.v 0 (.v 1 (.v 2 (.v 3 (.v 4 (.v 5 .nil)))))) moOrd (by kernel_rfl) ?_)))
  refine rd_v rfl (v_loadI ty31 rfl) (rvm rfl rfl (rvm rfl rfl (cal_inv h fun y5 hy5 h => rd_v rfl (v_ix (l := a_s) rfl (fun _ _ h => h) rfl sl78 hy5) ?_)))
  refine rd_v rfl (v_loadI ty31 rfl) (rd_v rfl (v_eqA eq31 rfl rfl) (rd_nil (fin_nxt (w_condM h rfl (fun _ h => ?_) (fun _ h => ?_)))))
  ·
   refine wsr (oM rfl (oA rfl (rnf (w_ret ?_))))
   refine ret_block (ret_nxt (rL2 _ (ret_block (ret_nxt ?_))))
   refine ret_post (.tmp rfl .nil) .nil ?_
   obtain rfl := Option.some.inj h
   exact ⟨rfl, rfl⟩
  ·
   refine w_skip (fin_block (fin_nxt (w_region (ck_inv h fun q6 h => ?_))))
   exact oV (v_add rfl rfl q6) (oM rfl (rl_nil (hL2 _ () h _ (ji 12 8 rfl rfl rfl))))
 ·
  refine w_exit (exi_nxt (eL2 _ _ (exi_block (fin_nxt ?_))))
  refine wsr (oA rfl (rnf (w_ret (ret_post (.tmp rfl .nil) .nil ?_))))
  obtain rfl := Option.some.inj h
  exact ⟨rfl, rfl⟩


theorem slices_Contains_Lapi_Tag_api_Tag_w : ∀ {a_s : (List Tag)} {a_v : Tag} {r : Bool}, slices_Contains_Lapi_Tag_api_Tag a_s a_v = some r → Ctr Tryz.prog 162 [isv (a_s), isv (a_v)] [] (fun R H => R = oneOf [isv (r)] ∧ H = []) := by
 intro a_s a_v r h
 unfold slices_Contains_Lapi_Tag_api_Tag at h
 refine spec_intro Tryz.func162 rfl (by decide +kernel) (by rfl) fun w0 S0 hT => ?_
 refine wsr (oT (t_boxIC (y := a_v) rfl (fun _ _ h => h) (oA rfl (rnf (wsr ?_)))))
 refine oM rfl (oV (v_loadI ty31 rfl) (cal_inv h fun y1 hy1 h => oT (t_call (slices_Index_Lapi_Tag_api_Tag_w hy1) hT (.same rfl (.same rfl .nil)) .nil (fun R H' hR => ?_))))
 obtain ⟨rfl, rfl⟩ := hR
 refine oV (v_geq rfl rfl) (oA rfl (rnf (w_ret (ret_post (.tmp rfl .nil) .nil ?_))))
 obtain rfl := Option.some.inj h
 exact ⟨rfl, rfl⟩


theorem value_checker_foreign_c1_w : ∀ {a_f : GFld} {a_a1 : GChk} {a_a2 : Tag} {b_a_a1 : Nat} {r : Bool × GChk}, value_checker_foreign_c1 a_f a_a1 a_a2 = some r → Ctr Tryz.prog 161 [isv (a_f), immv (PtrB.mk b_a_a1), immv (a_a2)] [boxE b_a_a1 (a_a1 : GChk)] (fun R H => R = oneOf [isv (r.1)] ∧ H = [boxE b_a_a1 (r.2)]) := by
 intro a_f a_a1 a_a2 b_a_a1 r h
 unfold value_checker_foreign_c1 at h
 refine spec_intro Tryz.func161 rfl (by decide +kernel) (by rfl) fun w0 S0 hT => ?_
 refine wsr (oT (t_boxIC (y := a_f) rfl (fun _ _ h => h) (oA rfl (rnf (w_seq ?_)))))
 refine w_regionD (.v 0 (.v 1 (.v 2 (.v 3 (.v 5 (.v 6 (.v 8 (.t 4 (.t 7 (.t 9 (.v 10 .nil))))))))))) moOrd (by kernel_rfl) ?_
 refine rd_v rfl (v_loadIP (α := GChk) ty99 rfl) (rd_v rfl (v_nilCheck rfl) (rd_v rfl (v_fa rfl GChk.f0 fd103_0) (rd_v rfl (v_fa rfl GTbd.f0 fd101_0) (rd_v rfl (v_fi rfl GFld.f1 fd92_1 rfl (z := a_f.ty)) ?_))))
 refine rd_v rfl (v_loadI ty3 rfl) (rd_v rfl (v_loadI ty31 rfl) (rd_t rfl rfl (t_loadC (R := isv (a_a1.tabled.t)) ty26 rfl .here (fun _ _ h => h) (cal_inv h fun y1 hy1 h => rd_t rfl rfl (t_call (table_Begins_w hy1) hT (.same rfl (.same rfl .nil)) .nil (fun R H' hR => ?_))))))
 obtain ⟨rfl, rfl⟩ := hR
 refine cal_inv h fun y2 hy2 h => rd_t rfl rfl (t_call (slices_Contains_Lapi_Tag_api_Tag_w hy2) hT (.same rfl (.same rfl .nil)) .nil (fun R H' hR => ?_))
 obtain ⟨rfl, rfl⟩ := hR
 refine rd_v rfl (v_assign rfl) (rd_nil (fin_nxt (w_ret (ret_post (.tmp rfl .nil) (.cons .here .nil) ?_))))
 obtain rfl := Option.some.inj h
 exact ⟨rfl, rfl⟩


theorem slices_IndexFunc_Lapi_Field_api_Field_w : ∀ {a_s : (List GFld)} {a_f_0 : GChk} {a_f_1 : Tag} {b_a_f_0 : Nat} {r : Int × GChk}, slices_IndexFunc_Lapi_Field_api_Field a_s a_f_0 a_f_1 = some r → Ctr Tryz.prog 179 [isv (a_s), clov 161 [immv (PtrB.mk b_a_f_0), immv (a_f_1)]] [boxE b_a_f_0 (a_f_0 : GChk)] (fun R H => R = oneOf [isv (r.1)] ∧ H = [boxE b_a_f_0 (r.2)]) := by
 intro a_s a_f_0 a_f_1 b_a_f_0 r h
 unfold slices_IndexFunc_Lapi_Field_api_Field at h
 refine spec_intro Tryz.func179 rfl (by decide +kernel) (by rfl) fun w0 S0 hT => ?_
 refine wsr (oA rfl (rnf (w_seq (wsr ?_))))
 refine oM rfl (oV (v_ln (l := a_s) rfl (fun _ _ h => h) sl85) (oM rfl (rnf (w_block ?_))))
 refine w_lp (ι := Int × GChk) (γ := Unit) (fun q1 g1 => [(8, isv (q1.1))]) (fun q1 g1 => [boxE b_a_f_0 (q1.2 : GChk)]) h () (mod_cons (j := 8) rfl (fun _ _ h => h) mod_nil) (.cons .here .nil) (fun L2 q1 g1 Q9 h hL2 eL2 rL2 => wsr (oV (v_lss rfl rfl) (rnf (w_seq ?_))))
 refine w_condM h rfl (fun _ h => ?_) (fun _ h => ?_)
 ·
  refine wkf (w_seq (w_block (wsr (oM rfl ?_))))
  refine oA rfl (rnf (wsr (oM rfl (oM rfl ?_))))
  refine oM rfl (cal_inv h fun y6 hy6 h => oV (v_ix (l := a_s) rfl (fun _ _ h => h) rfl sl85 hy6) (oV (v_loadI ty92 rfl) (cal_inv h fun y7 hy7 h => ?_)))
  refine oT (t_callC rfl (.same rfl .nil) (value_checker_foreign_c1_w hy7) hT (.cons .here .nil) (fun R H' hR => ?_))
  obtain ⟨rfl, rfl⟩ := hR
  refine rnf (w_condM h rfl (fun _ h => ?_) (fun _ h => ?_))
  ·
   refine wsr (oM rfl (oA rfl (rnf (w_ret ?_))))
   refine ret_block (ret_nxt (rL2 _ (ret_block (ret_nxt ?_))))
   refine ret_post (.tmp rfl .nil) (.cons .here .nil) ?_
   obtain rfl := Option.some.inj h
   exact ⟨rfl, rfl⟩
  ·
   refine w_skip (fin_block (fin_nxt (w_region (ck_inv h fun q8 h => ?_))))
   exact oV (v_add rfl rfl q8) (oM rfl (rl_nil (hL2 _ () h _ (join_imp 12 rfl rfl (mod_cons (j := 8) rfl (fun _ _ h => h) mod_nil) (.cons .here .nil)))))
 ·
  refine w_exit (exi_nxt (eL2 _ _ (exi_block (fin_nxt ?_))))
  refine wsr (oA rfl (rnf (w_ret (ret_post (.tmp rfl .nil) (.cons .here .nil) ?_))))
  obtain rfl := Option.some.inj h
  exact ⟨rfl, rfl⟩


theorem slices_ContainsFunc_Lapi_Field_api_Field_w : ∀ {a_s : (List GFld)} {a_f_0 : GChk} {a_f_1 : Tag} {b_a_f_0 : Nat} {r : Bool × GChk}, slices_ContainsFunc_Lapi_Field_api_Field a_s a_f_0 a_f_1 = some r → Ctr Tryz.prog 160 [isv (a_s), clov 161 [immv (PtrB.mk b_a_f_0), immv (a_f_1)]] [boxE b_a_f_0 (a_f_0 : GChk)] (fun R H => R = oneOf [isv (r.1)] ∧ H = [boxE b_a_f_0 (r.2)]) := by
 intro a_s a_f_0 a_f_1 b_a_f_0 r h
 unfold slices_ContainsFunc_Lapi_Field_api_Field at h
 refine spec_intro Tryz.func160 rfl (by decide +kernel) (by rfl) fun w0 S0 hT => ?_
 refine wsr (oA rfl (rnf (wsr (oM rfl ?_))))
 refine oM rfl (cal_inv h fun y1 hy1 h => oT (t_call (slices_IndexFunc_Lapi_Field_api_Field_w hy1) hT (.same rfl (.same rfl .nil)) (.cons .here .nil) (fun R H' hR => ?_)))
 obtain ⟨rfl, rfl⟩ := hR
 refine oV (v_geq rfl rfl) (oA rfl (rnf (w_ret (ret_post (.tmp rfl .nil) (.cons .here .nil) ?_))))
 obtain rfl := Option.some.inj h
 exact ⟨rfl, rfl⟩


theorem value_checker_foreign_w : ∀ {a_c : GChk} {a_i : Int} {a_b : (List UInt8)} {b_a_c : Nat} {r : Tag × Bool × GChk}, value_checker_foreign a_c a_i a_b = some r → Ctr Tryz.prog 119 [ptrv b_a_c (Fld.id GChk), isv (a_i), isv (a_b)] [boxE b_a_c (a_c : GChk)] (fun R H => R = oneOf [isv (r.1), isv (r.2.1)] ∧ H = [boxE b_a_c (r.2.2)]) := by
 intro a_c a_i a_b b_a_c r h
 unfold value_checker_foreign at h
 refine spec_intro Tryz.func119 rfl (by decide +kernel) (by rfl) fun w0 S0 hT => ?_
 refine wsr (oT (t_boxIC (y := PtrB.mk b_a_c) rfl ptr_isv (oT (t_alloc _ ze31 fun b1 => oA rfl (rnf ?_)))))
 refine wsr (oM rfl (cal_inv h fun y2 hy2 h => oT (t_call (tlv_Take_w hy2) hT (.same rfl .nil) .nil (fun R H' hR => ?_))))
 obtain ⟨rfl, rfl⟩ := hR
 refine oM rfl (oV (v_extract rfl rfl) (oV (v_extract rfl rfl) (oV (v_extract rfl rfl) (oV (v_extract rfl rfl) ?_))))
 refine oV (v_extract rfl rfl) (oT (t_alloc _ ze31 fun b3 => oT (t_storeC (y' := (y2.1 : Tag)) ty31 rfl rfl (fun _ _ h => h) .here rfl (rl_upd (upd_imm 8 .here rfl) (oA rfl ?_)))))
 refine oA rfl (oA rfl (oA rfl (rnf (w_seq ?_))))
 refine wsr (oM rfl (oV (v_neq rfl rfl) (oM rfl (rl_j (jb 31) je .nil h 5 rfl (fun q4 g4 h => ?_) (fun J5 h hJ5 => ?_)))))
 ·
  refine rnf (w_condM h rfl (fun _ h => ?_) (fun _ h => ?_))
  ·
   refine wsr (oV (v_build (z := (Tag.mk (0 : Int) (0 : Int))) rfl bu31 ze31 .nil) (oT (t_storeC (y' := ((Tag.mk (0 : Int) (0 : Int)) : Tag)) ty31 rfl rfl (fun _ _ h => h) .here rfl (oA rfl (rnf ?_)))))
   refine w_ret (ret_nxt (ret_post (.cell rfl .here ty31 (.tmp rfl .nil)) (.cons (.there .here) .nil) ?_))
   obtain rfl := Option.some.inj h
   exact ⟨rfl, rfl⟩
  ·
   refine wkf (wsr (oV (v_loadIP (α := GChk) ty99 rfl) (oV (v_nilCheck rfl) (oV (v_fa rfl GChk.f0 fd103_0) ?_))))
   refine oV (v_fa rfl GTbd.f0 fd101_0) (oV (v_fa rfl GTab.f3 fd26_3) (oT (t_loadC (R := isv (a_c.tabled.t.types)) ty24 rfl (.there .here) (fun _ _ h => h) (oM rfl (cal_inv h fun y7 hy7 h => ?_)))))
   refine oV (v_ix (l := a_c.tabled.t.types) rfl (fun _ _ h => h) rfl sl24 hy7) (oV (v_loadI ty87 rfl) (oT (t_alloc _ ze87 fun b8 => oT (t_storeC (y' := (y7 : GTyp)) ty87 rfl rfl (fun _ _ h => h) .here rfl (rl_upd (upd_imm 13 .here rfl) ?_)))))
   refine oA rfl (rnf (w_seq (wsr (oV (v_fi rfl GTyp.f0 fd87_0 rfl (z := y7.kind)) ?_))))
   refine oV (v_loadI ty3 rfl) (oV (v_eql rfl rfl) (rnf (w_J (ι := Int) (γ := Unit) (fun q9 g9 => [(14, isv (q9))]) (fun q9 g9 => []) .nil h (fun q9 g9 h => ?_) (fun J10 h hJ10 => ?_))))
   ·
    refine wsr (oV (v_fi rfl GTyp.f4 fd87_4 rfl (z := y7.fields)) (oV (v_loadI ty85 rfl) (oM rfl (asd_inv h fun q12 h => ?_))))
    refine oV (v_sl (l := y7.fields) rfl (fun _ _ h => h) sl85 (.inr ⟨_, rfl, rfl⟩) (.inl ⟨rfl, rfl⟩) q12.1 q12.2.1 q12.2.2) (oV (v_makeFunc (.same rfl (.same rfl .nil))) (cal_inv h fun y13 hy13 h => oT (t_call (slices_ContainsFunc_Lapi_Field_api_Field_w hy13) hT (.same rfl (.same rfl .nil)) (.cons (.there .here) .nil) (fun R H' hR => ?_))))
    obtain ⟨rfl, rfl⟩ := hR
    refine oA rfl (rnf (wsr (oV (v_loadI ty31 rfl) (oM rfl ?_))))
    refine oV (v_not rfl) (oT (t_storeC (y' := (y2.1 : Tag)) ty31 rfl rfl (fun _ _ h => h) (.there .here) rfl (oA rfl (rnf (w_ret ?_)))))
    refine ret_post (.cell rfl .here ty31 (.tmp rfl .nil)) (.cons (.there .here) .nil) ?_
    obtain rfl := Option.some.inj h
    exact ⟨rfl, rfl⟩
   ·
    refine w_condM h rfl (fun _ h => ?_) (fun _ h => ?_)
    ·
     refine w_region (oV (v_loadI ty87 rfl) (cal_inv h fun y11 hy11 h => oT (t_call (table_Last_w hy11) hT (.same rfl .nil) .nil (fun R H' hR => ?_))))
     obtain ⟨rfl, rfl⟩ := hR
     exact oA rfl (rl_nil (hJ10 _ () h _ (join_imp 3 rfl rfl (mod_cons (j := 14) rfl (fun _ _ h => h) mod_nil) (.cons .here (.cons .here .nil)))))
    ·
     exact w_skip (hJ10 _ () h _ (join_imp 0 rfl rfl (mod_cons (j := 14) rfl (fun _ _ h => h) mod_nil) (.cons .here (.cons .here .nil))))
 ·
  refine rl_condM (j := 26) h rfl (fun g6 h => ?_) (fun g6 h => ?_)
  ·
   refine oP 26 rfl rfl g6 (oP 26 rfl rfl g6 (oP 26 rfl rfl g6 (oP 26 rfl rfl g6 (oV (v_pick_t rfl g6 rfl) ?_))))
   exact hJ5 _ () h _ (join_imp 5 rfl rfl (mod_cons (j := 31) rfl (fun _ _ h => h) mod_nil) (.cons .here (.cons .here .nil)))
  ·
   refine oK 26 rfl rfl rfl g6 (v_move rfl) (oK 26 rfl rfl rfl g6 (v_move rfl) (oK 26 rfl rfl rfl g6 (v_ln (l := a_b) rfl (fun _ _ h => h) sl42) (oK 26 rfl rfl rfl g6 (v_neq rfl rfl) (oV (v_pick_f rfl g6 rfl) ?_))))
   exact hJ5 _ () h _ (join_imp 5 rfl rfl (mod_cons (j := 31) rfl (fun _ _ h => h) mod_nil) (.cons .here (.cons .here .nil)))


theorem value_Item_c1_w : ∀ {a_y : GItem} {a_a1 : Int} {r : Bool}, value_Item_c1 a_y a_a1 = some r → Ctr Tryz.prog 122 [isv (a_y), immv (a_a1)] [] (fun R H => R = oneOf [isv (r)] ∧ H = []) := by
 intro a_y a_a1 r h
 unfold value_Item_c1 at h
 refine spec_intro Tryz.func122 rfl (by decide +kernel) (by rfl) fun w0 S0 hT => ?_
 refine wsr (oT (t_boxIC (y := a_y) rfl (fun _ _ h => h) (oA rfl (rnf (wsr ?_)))))
 refine oV (v_fi rfl GItem.f1 fd97_1 rfl (z := a_y.number)) (oV (v_loadI ty2 rfl) (oV (v_loadI ty2 rfl) (oV (v_eql rfl rfl) (oA rfl ?_))))
 refine rnf (w_ret (ret_post (.tmp rfl .nil) .nil ?_))
 obtain rfl := Option.some.inj h
 exact ⟨rfl, rfl⟩


theorem slices_IndexFunc_Lapi_Item_api_Item_w : ∀ {a_s : (List GItem)} {a_f_0 : Int} {r : Int}, slices_IndexFunc_Lapi_Item_api_Item a_s a_f_0 = some r → Ctr Tryz.prog 121 [isv (a_s), clov 122 [immv (a_f_0)]] [] (fun R H => R = oneOf [isv (r)] ∧ H = []) := by
 intro a_s a_f_0 r h
 unfold slices_IndexFunc_Lapi_Item_api_Item at h
 refine spec_intro Tryz.func121 rfl (by decide +kernel) (by rfl) fun w0 S0 hT => ?_
 refine wsr (oA rfl (rnf (w_seq (wsr ?_))))
 refine oM rfl (oV (v_ln (l := a_s) rfl (fun _ _ h => h) sl84) (oM rfl (rnf (w_block ?_))))
 refine w_lp (ι := Int) (γ := Unit) (fun q1 g1 => [(8, isv (q1))]) (fun q1 g1 => []) h () (mod_cons (j := 8) rfl (fun _ _ h => h) mod_nil) .nil (fun L2 q1 g1 Q9 h hL2 eL2 rL2 => wsr (oV (v_lss rfl rfl) (rnf (w_seq ?_))))
 refine w_condM h rfl (fun _ h => ?_) (fun _ h => ?_)
 ·
  refine wkf (w_seq (w_block (wsr (oM rfl ?_))))
  refine oA rfl (rnf (wsr (oM rfl (oM rfl ?_))))
  refine oM rfl (cal_inv h fun y6 hy6 h => oV (v_ix (l := a_s) rfl (fun _ _ h => h) rfl sl84 hy6) (oV (v_loadI ty97 rfl) (cal_inv h fun y7 hy7 h => ?_)))
  refine oT (t_callC rfl (.same rfl .nil) (value_Item_c1_w hy7) hT .nil (fun R H' hR => ?_))
  obtain ⟨rfl, rfl⟩ := hR
  refine rnf (w_condM h rfl (fun _ h => ?_) (fun _ h => ?_))
  ·
   refine wsr (oM rfl (oA rfl (rnf (w_ret ?_))))
   refine ret_block (ret_nxt (rL2 _ (ret_block (ret_nxt ?_))))
   refine ret_post (.tmp rfl .nil) .nil ?_
   obtain rfl := Option.some.inj h
   exact ⟨rfl, rfl⟩
  ·
   refine w_skip (fin_block (fin_nxt (w_region (ck_inv h fun q8 h => ?_))))
   exact oV (v_add rfl rfl q8) (oM rfl (rl_nil (hL2 _ () h _ (ji 12 8 rfl rfl rfl))))
 ·
  refine w_exit (exi_nxt (eL2 _ _ (exi_block (fin_nxt ?_))))
  refine wsr (oA rfl (rnf (w_ret (ret_post (.tmp rfl .nil) .nil ?_))))
  obtain rfl := Option.some.inj h
  exact ⟨rfl, rfl⟩


theorem value_Item_w : ∀ {a_x : GTyp} {a_n_ : Int} {r : Int}, value_Item a_x a_n_ = some r → Ctr Tryz.prog 85 [isv (a_x), isv (a_n_)] [] (fun R H => R = oneOf [isv (r)] ∧ H = []) := by
 intro a_x a_n_ r h
 unfold value_Item at h
 refine spec_intro Tryz.func85 rfl (by decide +kernel) (by rfl) fun w0 S0 hT => ?_
 refine wsr (oT (t_boxIC (y := a_x) rfl (fun _ _ h => h) (oT (t_boxIC (y := a_n_) rfl (fun _ _ h => h) (oA rfl (rnf ?_))))))
 refine wsr (oV (v_fi rfl GTyp.f3 fd87_3 rfl (z := a_x.items)) (oV (v_loadI ty84 rfl) (oV (v_makeFunc (.same rfl .nil)) (cal_inv h fun y1 hy1 h => ?_))))
 refine oT (t_call (slices_IndexFunc_Lapi_Item_api_Item_w hy1) hT (.same rfl (.same rfl .nil)) .nil (fun R H' hR => ?_))
 obtain ⟨rfl, rfl⟩ := hR
 refine oA rfl (rnf (w_ret (ret_post (.tmp rfl .nil) .nil ?_)))
 obtain rfl := Option.some.inj h
 exact ⟨rfl, rfl⟩


theorem value_open_w : ∀ {a_b : (List UInt8)} {r : Bool}, value_open a_b = some r → Ctr Tryz.prog 120 [isv (a_b)] [] (fun R H => R = oneOf [isv (r)] ∧ H = []) := by
 intro a_b r h
 unfold value_open at h
 refine spec_intro Tryz.func120 rfl (by decide +kernel) (by rfl) fun w0 S0 hT => ?_
 refine wsr (oA rfl (rnf (wsr (oM rfl ?_))))
 refine oV (v_ln (l := a_b) rfl (fun _ _ h => h) sl42) (oV (v_gtr rfl rfl) (oM rfl (rl_j (jb 10) je .nil h 4 rfl (fun q1 g1 h => ?_) (fun J2 h hJ2 => ?_))))
 ·
  refine oA rfl (rnf (w_ret (ret_post (.tmp rfl .nil) .nil ?_)))
  obtain rfl := Option.some.inj h
  exact ⟨rfl, rfl⟩
 ·
  refine rl_condM (j := 6) h rfl (fun g3 h => ?_) (fun g3 h => ?_)
  ·
   exact oK 6 rfl rfl rfl g3 (v_move rfl) (oK 6 rfl rfl rfl g3 (v_ln (l := a_b) rfl (fun _ _ h => h) sl42) (oK 6 rfl rfl rfl g3 (v_leq rfl rfl) (oV (v_pick_t rfl g3 rfl) (hJ2 _ () h _ (ji 4 10 rfl rfl rfl)))))
  ·
   exact oP 6 rfl rfl g3 (oP 6 rfl rfl g3 (oP 6 rfl rfl g3 (oV (v_pick_f rfl g3 rfl) (hJ2 _ () h _ (ji 4 10 rfl rfl rfl)))))


theorem value_checker_unknown_w : ∀ {a_c : GChk} {a_i : Int} {a_v : Val} {b_a_c : Nat} {r : Bool × GChk}, value_checker_unknown a_c a_i a_v = some r → Ctr Tryz.prog 82 [ptrv b_a_c (Fld.id GChk), isv (a_i), isv (a_v)] [boxE b_a_c (a_c : GChk)] (fun R H => R = oneOf [isv (r.1)] ∧ H = [boxE b_a_c (r.2)]) := by
 intro a_c a_i a_v b_a_c r h
 unfold value_checker_unknown at h
 refine spec_intro Tryz.func82 rfl (by decide +kernel) (by rfl) fun w0 S0 hT => ?_
 refine wsr (oT (t_boxIC (y := a_v) rfl (fun _ _ h => h) (oA rfl (rnf (wsr ?_)))))
 refine oM rfl (oV (v_nilCheck rfl) (oV (v_fa rfl GChk.f0 fd103_0) (oV (v_fa rfl GTbd.f0 fd101_0) (oV (v_fa rfl GTab.f3 fd26_3) ?_))))
 refine oT (t_loadC (R := isv (a_c.tabled.t.types)) ty24 rfl .here (fun _ _ h => h) (oM rfl (cal_inv h fun y1 hy1 h => oV (v_ix (l := a_c.tabled.t.types) rfl (fun _ _ h => h) rfl sl24 hy1) (oV (v_loadI ty87 rfl) ?_))))
 refine oT (t_alloc _ ze87 fun b2 => oT (t_storeC (y' := (y1 : GTyp)) ty87 rfl rfl (fun _ _ h => h) .here rfl (rl_upd (upd_imm 7 .here rfl) (rnf (wsr ?_)))))
 refine oV (v_fi rfl GTyp.f0 fd87_0 rfl (z := y1.kind)) (oV (v_loadI ty3 rfl) (oV (v_eql rfl rfl) (oA rfl (rnf ?_))))
 refine w_seq (wsr (oV (v_fi rfl GTyp.f6 fd87_6 rfl (z := y1.more)) (oV (v_loadI ty4 rfl) (oV (v_not rfl) ?_))))
 refine oM rfl (rl_j (jb 35) je .nil h 8 rfl (fun q3 g3 h => ?_) (fun J4 h hJ4 => ?_))
 ·
  refine oM rfl (rl_j (jb 45) je .nil h 9 rfl (fun q9 g9 h => ?_) (fun J10 h hJ10 => ?_))
  ·
   refine rnf (w_condM h rfl (fun _ h => ?_) (fun _ h => ?_))
   ·
    refine wsr (oA rfl (rnf (w_ret (ret_nxt ?_))))
    refine ret_post (.tmp rfl .nil) (.cons .here .nil) ?_
    obtain rfl := Option.some.inj h
    exact ⟨rfl, rfl⟩
   ·
    refine wkf (w_seq (wsr (oM rfl (oV (v_nilCheck rfl) ?_))))
    refine oV (v_fa rfl GChk.f1 fd103_1) (oT (t_loadC (R := isv (a_c.bare)) ty4 rfl .here (fun _ _ h => h) (rnf (w_condM h rfl (fun _ h => ?_) (fun _ h => ?_)))))
    ·
     refine wsr (oV (v_fi rfl Val.f1 fd46_1 rfl (z := a_v.n)) (oV (v_loadI ty2 rfl) (oV (v_eql rfl rfl) (oM rfl ?_))))
     refine rl_j (jb 58) je .nil h 5 rfl (fun q13 g13 h => ?_) (fun J14 h hJ14 => ?_)
     ·
      refine oM rfl (rl_j (jb 63) je .nil h 4 rfl (fun q16 g16 h => ?_) (fun J17 h hJ17 => ?_))
      ·
       refine oA rfl (rnf (w_ret (ret_nxt (ret_post (.tmp rfl .nil) (.cons .here .nil) ?_))))
       obtain rfl := Option.some.inj h
       exact ⟨rfl, rfl⟩
      ·
       refine rl_condM (j := 59) h rfl (fun g18 h => ?_) (fun g18 h => ?_)
       ·
        exact oK 59 rfl rfl rfl g18 (v_fi rfl Val.f4 fd46_4 rfl (z := a_v.rule)) (oK 59 rfl rfl rfl g18 (v_loadI ty3 rfl) (oK 59 rfl rfl rfl g18 (v_eql rfl rfl) (oV (v_pick_t rfl g18 rfl) (hJ17 _ () h _ (join_imp 4 rfl rfl (mod_cons (j := 63) rfl (fun _ _ h => h) mod_nil) (.cons .here .nil))))))
       ·
        exact oP 59 rfl rfl g18 (oP 59 rfl rfl g18 (oP 59 rfl rfl g18 (oV (v_pick_f rfl g18 rfl) (hJ17 _ () h _ (join_imp 4 rfl rfl (mod_cons (j := 63) rfl (fun _ _ h => h) mod_nil) (.cons .here .nil))))))
     ·
      refine rl_condM (j := 53) h rfl (fun g15 h => ?_) (fun g15 h => ?_)
      ·
       refine oK 53 rfl rfl rfl g15 (v_fi rfl Val.f2 fd46_2 rfl (z := a_v.b)) (oK 53 rfl rfl rfl g15 (v_loadI ty42 rfl) (oK 53 rfl rfl rfl g15 (v_ln (l := a_v.b) rfl (fun _ _ h => h) sl42) (oK 53 rfl rfl rfl g15 (v_eql rfl rfl) (oV (v_pick_t rfl g15 rfl) ?_))))
       exact hJ14 _ () h _ (join_imp 5 rfl rfl (mod_cons (j := 58) rfl (fun _ _ h => h) mod_nil) (.cons .here .nil))
      ·
       refine oP 53 rfl rfl g15 (oP 53 rfl rfl g15 (oP 53 rfl rfl g15 (oP 53 rfl rfl g15 (oV (v_pick_f rfl g15 rfl) ?_))))
       exact hJ14 _ () h _ (join_imp 5 rfl rfl (mod_cons (j := 58) rfl (fun _ _ h => h) mod_nil) (.cons .here .nil))
    ·
     refine wkf (wsr (oV (v_fi rfl GTyp.f3 fd87_3 rfl (z := y1.items)) (oV (v_loadI ty84 rfl) (oV (v_ln (l := y1.items) rfl (fun _ _ h => h) sl84) ?_))))
     refine oV (v_fi rfl GTyp.f4 fd87_4 rfl (z := y1.fields)) (oV (v_loadI ty85 rfl) (oV (v_ln (l := y1.fields) rfl (fun _ _ h => h) sl85) (ck_inv h fun q19 h => oV (v_add rfl rfl q19) ?_)))
     refine oV (v_fi rfl GTyp.f5 fd87_5 rfl (z := y1.root)) (oV (v_loadI ty3 rfl) (ck_inv h fun q20 h => oV (v_sub rfl rfl q20) (oA rfl ?_)))
     refine rnf (w_seq (w_block (wsr (oV (v_fi rfl Val.f4 fd46_4 rfl (z := a_v.rule)) ?_))))
     refine oV (v_loadI ty3 rfl) (oV (v_eql rfl rfl) (oM rfl (rl_j (jb 80) je .nil h 2 rfl (fun q21 g21 h => ?_) (fun J22 h hJ22 => ?_))))
     ·
      refine oA rfl (rnf (w_condM h rfl (fun _ h => ?_) (fun _ h => ?_)))
      ·
       refine wsr (oM rfl (oM rfl (oV (v_fi rfl Val.f2 fd46_2 rfl (z := a_v.b)) (oV (v_loadI ty42 rfl) ?_))))
       refine cal_inv h fun y24 hy24 h => oT (t_call (value_checker_foreign_w hy24) hT (.same rfl (.same rfl (.same rfl .nil))) (.cons .here .nil) (fun R H' hR => ?_))
       obtain ⟨rfl, rfl⟩ := hR
       refine oM rfl (oV (v_extract rfl rfl) (oV (v_extract rfl rfl) (oT (t_alloc _ ze31 fun b25 => oT (t_storeC (y' := (y24.1 : Tag)) ty31 rfl rfl (fun _ _ h => h) .here rfl ?_)))))
       refine rl_upd (upd_imm 10 .here rfl) (oA rfl (rnf (wsr (oM rfl ?_))))
       refine oM rfl (rl_j (jb 94) je .nil h 4 rfl (fun q26 g26 h => ?_) (fun J27 h hJ27 => ?_))
       ·
        refine oA rfl (rnf (w_ret (ret_block (ret_nxt ?_))))
        refine ret_post (.tmp rfl .nil) (.cons .here .nil) ?_
        obtain rfl := Option.some.inj h
        exact ⟨rfl, rfl⟩
       ·
        refine rl_condM (j := 90) h rfl (fun g28 h => ?_) (fun g28 h => ?_)
        ·
         exact oK 90 rfl rfl rfl g28 (v_fi rfl Val.f1 fd46_1 rfl (z := a_v.n)) (oK 90 rfl rfl rfl g28 (v_loadI ty2 rfl) (oK 90 rfl rfl rfl g28 (v_eql rfl rfl) (oV (v_pick_t rfl g28 rfl) (hJ27 _ () h _ (join_imp 4 rfl rfl (mod_cons (j := 94) rfl (fun _ _ h => h) mod_nil) (.cons .here .nil))))))
        ·
         exact oP 90 rfl rfl g28 (oP 90 rfl rfl g28 (oP 90 rfl rfl g28 (oV (v_pick_f rfl g28 rfl) (hJ27 _ () h _ (join_imp 4 rfl rfl (mod_cons (j := 94) rfl (fun _ _ h => h) mod_nil) (.cons .here .nil))))))
      ·
       refine wsr (oV (v_fi rfl Val.f4 fd46_4 rfl (z := a_v.rule)) (oV (v_loadI ty3 rfl) (oV (v_eql rfl rfl) (oA rfl ?_))))
       refine rnf (w_condM h rfl (fun _ h => ?_) (fun _ h => ?_))
       ·
        refine wsr (oV (v_fi rfl Val.f2 fd46_2 rfl (z := a_v.b)) (oV (v_loadI ty42 rfl) (oV (v_ln (l := a_v.b) rfl (fun _ _ h => h) sl42) (oV (v_eql rfl rfl) ?_))))
        refine oM rfl (rl_j (jb 109) je .nil h 6 rfl (fun q29 g29 h => ?_) (fun J30 h hJ30 => ?_))
        ·
         refine oA rfl (rnf (w_ret (ret_block (ret_nxt ?_))))
         refine ret_post (.tmp rfl .nil) (.cons .here .nil) ?_
         obtain rfl := Option.some.inj h
         exact ⟨rfl, rfl⟩
        ·
         refine rl_condM (j := 103) h rfl (fun g31 h => ?_) (fun g31 h => ?_)
         ·
          refine oK 103 rfl rfl rfl g31 (v_loadI ty87 rfl) (oK 103 rfl rfl rfl g31 (v_fi rfl Val.f1 fd46_1 rfl (z := a_v.n)) (oK 103 rfl rfl rfl g31 (v_loadI ty2 rfl) (cal_inv h fun y32 hy32 h => op_take rfl rfl (dj := 103) rfl g31 (t_call (value_Item_w hy32) hT (.same rfl (.same rfl .nil)) .nil (fun R H' hR => ?_)))))
          obtain ⟨rfl, rfl⟩ := hR
          exact oK 103 rfl rfl rfl g31 (v_lss rfl rfl) (oV (v_pick_t rfl g31 rfl) (hJ30 _ () h _ (join_imp 6 rfl rfl (mod_cons (j := 109) rfl (fun _ _ h => h) mod_nil) (.cons .here .nil))))
         ·
          refine oP 103 rfl rfl g31 (oP 103 rfl rfl g31 (oP 103 rfl rfl g31 (oP 103 rfl rfl g31 (oP 103 rfl rfl g31 ?_))))
          exact oV (v_pick_f rfl g31 rfl) (hJ30 _ () h _ (join_imp 6 rfl rfl (mod_cons (j := 109) rfl (fun _ _ h => h) mod_nil) (.cons .here .nil)))
       ·
        refine wsr (oV (v_fi rfl Val.f4 fd46_4 rfl (z := a_v.rule)) (oV (v_loadI ty3 rfl) (oV (v_neq rfl rfl) (oM rfl ?_))))
        refine rl_j (jb 119) je .nil h 5 rfl (fun q33 g33 h => ?_) (fun J34 h hJ34 => ?_)
        ·
         refine oM rfl (rl_j (jb 124) je .nil h 4 rfl (fun q36 g36 h => ?_) (fun J37 h hJ37 => ?_))
         ·
          refine oA rfl (rnf (w_condM h rfl (fun _ h => ?_) (fun _ h => ?_)))
          ·
           refine wsr (oA rfl (rnf (w_ret (ret_block ?_))))
           refine ret_nxt (ret_post (.tmp rfl .nil) (.cons .here .nil) ?_)
           obtain rfl := Option.some.inj h
           exact ⟨rfl, rfl⟩
          ·
           refine wsr (oM rfl (oA rfl (rnf (w_condM h rfl (fun _ h => ?_) (fun _ h => ?_)))))
           ·
            refine wsr (oV (v_fi rfl Val.f2 fd46_2 rfl (z := a_v.b)) (oV (v_loadI ty42 rfl) (cal_inv h fun y39 hy39 h => oT (t_call (value_open_w hy39) hT (.same rfl .nil) .nil (fun R H' hR => ?_)))))
            obtain ⟨rfl, rfl⟩ := hR
            refine oA rfl (rnf (w_ret (ret_block (ret_nxt ?_))))
            refine ret_post (.tmp rfl .nil) (.cons .here .nil) ?_
            obtain rfl := Option.some.inj h
            exact ⟨rfl, rfl⟩
           ·
            refine w_skip (fin_block (fin_nxt (wsr (oV (v_fi rfl Val.f2 fd46_2 rfl (z := a_v.b)) ?_))))
            refine oV (v_loadI ty42 rfl) (oV (v_ln (l := a_v.b) rfl (fun _ _ h => h) sl42) (oV (v_eql rfl rfl) (oA rfl (rnf ?_))))
            refine w_ret (ret_post (.tmp rfl .nil) (.cons .here .nil) ?_)
            obtain rfl := Option.some.inj h
            exact ⟨rfl, rfl⟩
         ·
          refine rl_condM (j := 120) h rfl (fun g38 h => ?_) (fun g38 h => ?_)
          ·
           exact oP 120 rfl rfl g38 (oP 120 rfl rfl g38 (oP 120 rfl rfl g38 (oV (v_pick_t rfl g38 rfl) (hJ37 _ () h _ (join_imp 4 rfl rfl (mod_cons (j := 124) rfl (fun _ _ h => h) mod_nil) (.cons .here .nil))))))
          ·
           exact oK 120 rfl rfl rfl g38 (v_fi rfl Val.f1 fd46_1 rfl (z := a_v.n)) (oK 120 rfl rfl rfl g38 (v_loadI ty2 rfl) (oK 120 rfl rfl rfl g38 (v_geq rfl rfl) (oV (v_pick_f rfl g38 rfl) (hJ37 _ () h _ (join_imp 4 rfl rfl (mod_cons (j := 124) rfl (fun _ _ h => h) mod_nil) (.cons .here .nil))))))
        ·
         refine rl_condM (j := 114) h rfl (fun g35 h => ?_) (fun g35 h => ?_)
         ·
          refine oP 114 rfl rfl g35 (oP 114 rfl rfl g35 (oP 114 rfl rfl g35 (oP 114 rfl rfl g35 (oV (v_pick_t rfl g35 rfl) ?_))))
          exact hJ34 _ () h _ (join_imp 5 rfl rfl (mod_cons (j := 119) rfl (fun _ _ h => h) mod_nil) (.cons .here .nil))
         ·
          refine oK 114 rfl rfl rfl g35 (v_fi rfl Val.f1 fd46_1 rfl (z := a_v.n)) (oK 114 rfl rfl rfl g35 (v_loadI ty2 rfl) (oK 114 rfl rfl rfl g35 (v_move rfl) (oK 114 rfl rfl rfl g35 (v_lss rfl rfl) (oV (v_pick_f rfl g35 rfl) ?_))))
          exact hJ34 _ () h _ (join_imp 5 rfl rfl (mod_cons (j := 119) rfl (fun _ _ h => h) mod_nil) (.cons .here .nil))
     ·
      refine rl_condM (j := 78) h rfl (fun g23 h => ?_) (fun g23 h => ?_)
      ·
       exact oK 78 rfl rfl rfl g23 (v_move rfl) (oV (v_pick_t rfl g23 rfl) (hJ22 _ () h _ (join_imp 2 rfl rfl (mod_cons (j := 80) rfl (fun _ _ h => h) mod_nil) (.cons .here .nil))))
      ·
       exact oP 78 rfl rfl g23 (oV (v_pick_f rfl g23 rfl) (hJ22 _ () h _ (join_imp 2 rfl rfl (mod_cons (j := 80) rfl (fun _ _ h => h) mod_nil) (.cons .here .nil))))
  ·
   refine rl_condM (j := 36) h rfl (fun g11 h => ?_) (fun g11 h => ?_)
   ·
    refine oP 36 rfl rfl g11 (oP 36 rfl rfl g11 (oP 36 rfl rfl g11 (oP 36 rfl rfl g11 (oP 36 rfl rfl g11 ?_))))
    exact oP 36 rfl rfl g11 (oP 36 rfl rfl g11 (oP 36 rfl rfl g11 (oV (v_pick_t rfl g11 rfl) (hJ10 _ () h _ (join_imp 9 rfl rfl (mod_cons (j := 45) rfl (fun _ _ h => h) mod_nil) (.cons .here .nil))))))
   ·
    refine oK 36 rfl rfl rfl g11 (v_fi rfl Val.f3 fd46_3 rfl (z := a_v.l)) (oK 36 rfl rfl rfl g11 (v_loadI ty43 rfl) (oK 36 rfl rfl rfl g11 (v_ln (l := a_v.l) rfl (fun _ _ h => h) sl43) (oK 36 rfl rfl rfl g11 (v_fi rfl Val.f5 fd46_5 rfl (z := a_v.more)) (oK 36 rfl rfl rfl g11 (v_loadI ty44 rfl) ?_))))
    refine oK 36 rfl rfl rfl g11 (v_ln (l := a_v.more) rfl (fun _ _ h => h) sl44) (ck_inv h fun q12 h => oK 36 rfl rfl rfl g11 (v_add rfl rfl q12) (oK 36 rfl rfl rfl g11 (v_gtr rfl rfl) (oV (v_pick_f rfl g11 rfl) ?_)))
    exact hJ10 _ () h _ (join_imp 9 rfl rfl (mod_cons (j := 45) rfl (fun _ _ h => h) mod_nil) (.cons .here .nil))
 ·
  refine rl_condM (j := 27) h rfl (fun g5 h => ?_) (fun g5 h => ?_)
  ·
   refine oP 27 rfl rfl g5 (oP 27 rfl rfl g5 (oP 27 rfl rfl g5 (op_passU rfl (dj := 30) rfl (op_passU rfl (dj := 30) rfl ?_))))
   exact op_passU rfl (dj := 30) rfl (oP 27 rfl rfl g5 (oV (v_pick_t rfl g5 rfl) (hJ4 _ () h _ (join_imp 8 rfl rfl (mod_cons (j := 35) rfl (fun _ _ h => h) mod_nil) (.cons .here .nil)))))
  ·
   refine oK 27 rfl rfl rfl g5 (v_move rfl) (oK 27 rfl rfl rfl g5 (v_not rfl) (oK 27 rfl rfl rfl g5 (v_move rfl) (rl_j (jb 34) je .nil h 4 rfl (fun q6 g6 h => ?_) (fun J7 h hJ7 => ?_))))
   ·
    exact oV (v_pick_f rfl g5 rfl) (hJ4 _ () h _ (join_imp 5 rfl rfl (mod_cons (j := 35) rfl (fun _ _ h => h) mod_nil) (.cons .here .nil)))
   ·
    refine rl_condM (j := 30) h rfl (fun g8 h => ?_) (fun g8 h => ?_)
    ·
     exact oK 30 rfl rfl rfl g8 (v_fi rfl GTyp.f0 fd87_0 rfl (z := y1.kind)) (oK 30 rfl rfl rfl g8 (v_loadI ty3 rfl) (oK 30 rfl rfl rfl g8 (v_neq rfl rfl) (oK 27 rfl rfl rfl g5 (v_pick_t rfl g8 rfl) (hJ7 _ () h _ (join_imp 4 rfl rfl (mod_cons (j := 34) rfl (fun _ _ h => h) mod_nil) (.cons .here .nil))))))
    ·
     exact oP 30 rfl rfl g8 (oP 30 rfl rfl g8 (oP 30 rfl rfl g8 (oK 27 rfl rfl rfl g5 (v_pick_f rfl g8 rfl) (hJ7 _ () h _ (join_imp 4 rfl rfl (mod_cons (j := 34) rfl (fun _ _ h => h) mod_nil) (.cons .here .nil))))))


theorem value_plain_w : ∀ {a_v : Val} {a_uses : Int} {r : Bool}, value_plain a_v a_uses = some r → Ctr Tryz.prog 83 [isv (a_v), isv (a_uses)] [] (fun R H => R = oneOf [isv (r)] ∧ H = []) := by
 intro a_v a_uses r h
 unfold value_plain at h
 refine spec_intro Tryz.func83 rfl (by decide +kernel) (by rfl) fun w0 S0 hT => ?_
 refine wsr (oT (t_boxIC (y := a_v) rfl (fun _ _ h => h) (oA rfl (rnf (wsr ?_)))))
 refine oM rfl (asd_inv h fun q1 h => oV (v_andI rfl rfl q1.1 q1.2) (oV (v_neq rfl rfl) (oM rfl ?_)))
 refine rl_j (jb 12) je .nil h 4 rfl (fun q2 g2 h => ?_) (fun J3 h hJ3 => ?_)
 ·
  refine oM rfl (rl_j (jb 23) je .nil h 10 rfl (fun q5 g5 h => ?_) (fun J6 h hJ6 => ?_))
  ·
   refine oM rfl (rl_j (jb 34) je .nil h 10 rfl (fun q12 g12 h => ?_) (fun J13 h hJ13 => ?_))
   ·
    refine oM rfl (rl_j (jb 50) je .nil h 15 rfl (fun q19 g19 h => ?_) (fun J20 h hJ20 => ?_))
    ·
     refine oA rfl (rnf (w_ret (ret_post (.tmp rfl .nil) .nil ?_)))
     obtain rfl := Option.some.inj h
     exact ⟨rfl, rfl⟩
    ·
     refine rl_condM (j := 35) h rfl (fun g21 h => ?_) (fun g21 h => ?_)
     ·
      refine oK 35 rfl rfl rfl g21 (v_move rfl) (asd_inv h fun q22 h => oK 35 rfl rfl rfl g21 (v_andI rfl rfl q22.1 q22.2) (oK 35 rfl rfl rfl g21 (v_neq rfl rfl) (oK 35 rfl rfl rfl g21 (v_move rfl) ?_)))
      refine rl_j (jb 49) je .nil h 10 rfl (fun q23 g23 h => ?_) (fun J24 h hJ24 => ?_)
      ·
       exact oV (v_pick_t rfl g21 rfl) (hJ20 _ () h _ (ji 6 50 rfl rfl rfl))
      ·
       refine rl_condM (j := 39) h rfl (fun g25 h => ?_) (fun g25 h => ?_)
       ·
        refine oP 39 rfl rfl g25 (oP 39 rfl rfl g25 (oP 39 rfl rfl g25 (oP 39 rfl rfl g25 (op_passU rfl (dj := 43) rfl ?_))))
        refine op_passU rfl (dj := 43) rfl (op_passU rfl (dj := 43) rfl (op_passU rfl (dj := 43) rfl (oP 39 rfl rfl g25 (oK 35 rfl rfl rfl g21 (v_pick_t rfl g25 rfl) ?_))))
        exact hJ24 _ () h _ (ji 10 49 rfl rfl rfl)
       ·
        refine oK 39 rfl rfl rfl g25 (v_fi rfl Val.f4 fd46_4 rfl (z := a_v.rule)) (oK 39 rfl rfl rfl g25 (v_loadI ty3 rfl) (oK 39 rfl rfl rfl g25 (v_eql rfl rfl) (oK 39 rfl rfl rfl g25 (v_move rfl) (rl_j (jb 48) je .nil h 5 rfl (fun q26 g26 h => ?_) (fun J27 h hJ27 => ?_)))))
        ·
         exact oK 35 rfl rfl rfl g21 (v_pick_f rfl g25 rfl) (hJ24 _ () h _ (ji 6 49 rfl rfl rfl))
        ·
         refine rl_condM (j := 43) h rfl (fun g28 h => ?_) (fun g28 h => ?_)
         ·
          refine oK 43 rfl rfl rfl g28 (v_fi rfl Val.f5 fd46_5 rfl (z := a_v.more)) (oK 43 rfl rfl rfl g28 (v_loadI ty44 rfl) (oK 43 rfl rfl rfl g28 (v_ln (l := a_v.more) rfl (fun _ _ h => h) sl44) (oK 43 rfl rfl rfl g28 (v_eql rfl rfl) (oK 39 rfl rfl rfl g25 (v_pick_t rfl g28 rfl) ?_))))
          exact hJ27 _ () h _ (ji 5 48 rfl rfl rfl)
         ·
          refine oP 43 rfl rfl g28 (oP 43 rfl rfl g28 (oP 43 rfl rfl g28 (oP 43 rfl rfl g28 (oK 39 rfl rfl rfl g25 (v_pick_f rfl g28 rfl) ?_))))
          exact hJ27 _ () h _ (ji 5 48 rfl rfl rfl)
     ·
      refine oP 35 rfl rfl g21 (oP 35 rfl rfl g21 (oP 35 rfl rfl g21 (oP 35 rfl rfl g21 (op_passU rfl (dj := 39) rfl ?_))))
      refine op_passU rfl (dj := 39) rfl (op_passU rfl (dj := 39) rfl (op_passU rfl (dj := 39) rfl (op_passU rfl (dj := 43) rfl (op_passU rfl (dj := 43) rfl ?_))))
      refine op_passU rfl (dj := 43) rfl (op_passU rfl (dj := 43) rfl (op_passU rfl (dj := 39) rfl (oP 35 rfl rfl g21 (oV (v_pick_f rfl g21 rfl) ?_))))
      exact hJ20 _ () h _ (ji 15 50 rfl rfl rfl)
   ·
    refine rl_condM (j := 24) h rfl (fun g14 h => ?_) (fun g14 h => ?_)
    ·
     refine oK 24 rfl rfl rfl g14 (v_move rfl) (asd_inv h fun q15 h => oK 24 rfl rfl rfl g14 (v_andI rfl rfl q15.1 q15.2) (oK 24 rfl rfl rfl g14 (v_neq rfl rfl) (oK 24 rfl rfl rfl g14 (v_move rfl) ?_)))
     refine rl_j (jb 33) je .nil h 5 rfl (fun q16 g16 h => ?_) (fun J17 h hJ17 => ?_)
     ·
      exact oV (v_pick_t rfl g14 rfl) (hJ13 _ () h _ (ji 6 34 rfl rfl rfl))
     ·
      refine rl_condM (j := 28) h rfl (fun g18 h => ?_) (fun g18 h => ?_)
      ·
       refine oP 28 rfl rfl g18 (oP 28 rfl rfl g18 (oP 28 rfl rfl g18 (oP 28 rfl rfl g18 (oK 24 rfl rfl rfl g14 (v_pick_t rfl g18 rfl) ?_))))
       exact hJ17 _ () h _ (ji 5 33 rfl rfl rfl)
      ·
       refine oK 28 rfl rfl rfl g18 (v_fi rfl Val.f3 fd46_3 rfl (z := a_v.l)) (oK 28 rfl rfl rfl g18 (v_loadI ty43 rfl) (oK 28 rfl rfl rfl g18 (v_ln (l := a_v.l) rfl (fun _ _ h => h) sl43) (oK 28 rfl rfl rfl g18 (v_eql rfl rfl) (oK 24 rfl rfl rfl g14 (v_pick_f rfl g18 rfl) ?_))))
       exact hJ17 _ () h _ (ji 5 33 rfl rfl rfl)
    ·
     refine oP 24 rfl rfl g14 (oP 24 rfl rfl g14 (oP 24 rfl rfl g14 (oP 24 rfl rfl g14 (op_passU rfl (dj := 28) rfl ?_))))
     refine op_passU rfl (dj := 28) rfl (op_passU rfl (dj := 28) rfl (op_passU rfl (dj := 28) rfl (oP 24 rfl rfl g14 (oV (v_pick_f rfl g14 rfl) ?_))))
     exact hJ13 _ () h _ (ji 10 34 rfl rfl rfl)
  ·
   refine rl_condM (j := 13) h rfl (fun g7 h => ?_) (fun g7 h => ?_)
   ·
    refine oK 13 rfl rfl rfl g7 (v_move rfl) (asd_inv h fun q8 h => oK 13 rfl rfl rfl g7 (v_andI rfl rfl q8.1 q8.2) (oK 13 rfl rfl rfl g7 (v_neq rfl rfl) (oK 13 rfl rfl rfl g7 (v_move rfl) ?_)))
    refine rl_j (jb 22) je .nil h 5 rfl (fun q9 g9 h => ?_) (fun J10 h hJ10 => ?_)
    ·
     exact oV (v_pick_t rfl g7 rfl) (hJ6 _ () h _ (ji 6 23 rfl rfl rfl))
    ·
     refine rl_condM (j := 17) h rfl (fun g11 h => ?_) (fun g11 h => ?_)
     ·
      refine oP 17 rfl rfl g11 (oP 17 rfl rfl g11 (oP 17 rfl rfl g11 (oP 17 rfl rfl g11 (oK 13 rfl rfl rfl g7 (v_pick_t rfl g11 rfl) ?_))))
      exact hJ10 _ () h _ (ji 5 22 rfl rfl rfl)
     ·
      refine oK 17 rfl rfl rfl g11 (v_fi rfl Val.f2 fd46_2 rfl (z := a_v.b)) (oK 17 rfl rfl rfl g11 (v_loadI ty42 rfl) (oK 17 rfl rfl rfl g11 (v_ln (l := a_v.b) rfl (fun _ _ h => h) sl42) (oK 17 rfl rfl rfl g11 (v_eql rfl rfl) (oK 13 rfl rfl rfl g7 (v_pick_f rfl g11 rfl) ?_))))
      exact hJ10 _ () h _ (ji 5 22 rfl rfl rfl)
   ·
    refine oP 13 rfl rfl g7 (oP 13 rfl rfl g7 (oP 13 rfl rfl g7 (oP 13 rfl rfl g7 (op_passU rfl (dj := 17) rfl ?_))))
    refine op_passU rfl (dj := 17) rfl (op_passU rfl (dj := 17) rfl (op_passU rfl (dj := 17) rfl (oP 13 rfl rfl g7 (oV (v_pick_f rfl g7 rfl) ?_))))
    exact hJ6 _ () h _ (ji 10 23 rfl rfl rfl)
 ·
  refine rl_condM (j := 8) h rfl (fun g4 h => ?_) (fun g4 h => ?_)
  ·
   exact oP 8 rfl rfl g4 (oP 8 rfl rfl g4 (oP 8 rfl rfl g4 (oV (v_pick_t rfl g4 rfl) (hJ3 _ () h _ (ji 4 12 rfl rfl rfl)))))
  ·
   exact oK 8 rfl rfl rfl g4 (v_fi rfl Val.f1 fd46_1 rfl (z := a_v.n)) (oK 8 rfl rfl rfl g4 (v_loadI ty2 rfl) (oK 8 rfl rfl rfl g4 (v_eql rfl rfl) (oV (v_pick_f rfl g4 rfl) (hJ3 _ () h _ (ji 4 12 rfl rfl rfl)))))


theorem bounds_Within_w : ∀ {a_c : GCon} {a_v : Int} {r : Bool}, bounds_Within a_c a_v = some r → Ctr Tryz.prog 84 [isv (a_c), isv (a_v)] [] (fun R H => R = oneOf [isv (r)] ∧ H = []) := by
 intro a_c a_v r h
 unfold bounds_Within at h
 refine spec_intro Tryz.func84 rfl (by decide +kernel) (by rfl) fun w0 S0 hT => ?_
 refine wsr (oT (t_boxIC (y := a_c) rfl (fun _ _ h => h) (oA rfl (rnf (wsr ?_)))))
 refine oV (v_fi rfl GCon.f0 fd83_0 rfl (z := a_c.has)) (oV (v_loadI ty4 rfl) (oV (v_not rfl) (oM rfl (rl_j (jb 29) je .nil h 21 rfl (fun q1 g1 h => ?_) (fun J2 h hJ2 => ?_)))))
 ·
  refine oA rfl (rnf (w_ret (ret_post (.tmp rfl .nil) .nil ?_)))
  obtain rfl := Option.some.inj h
  exact ⟨rfl, rfl⟩
 ·
  refine rl_condM (j := 8) h rfl (fun g3 h => ?_) (fun g3 h => ?_)
  ·
   refine oP 8 rfl rfl g3 (oP 8 rfl rfl g3 (oP 8 rfl rfl g3 (oP 8 rfl rfl g3 (op_passU rfl (dj := 12) rfl ?_))))
   refine op_passU rfl (dj := 12) rfl (op_passU rfl (dj := 12) rfl (op_passU rfl (dj := 12) rfl (oP 8 rfl rfl g3 (oP 8 rfl rfl g3 ?_))))
   refine op_passU rfl (dj := 18) rfl (op_passU rfl (dj := 18) rfl (op_passU rfl (dj := 18) rfl (op_passU rfl (dj := 18) rfl (op_passU rfl (dj := 22) rfl ?_))))
   refine op_passU rfl (dj := 22) rfl (op_passU rfl (dj := 22) rfl (op_passU rfl (dj := 22) rfl (op_passU rfl (dj := 18) rfl (oP 8 rfl rfl g3 ?_))))
   exact oV (v_pick_t rfl g3 rfl) (hJ2 _ () h _ (ji 21 29 rfl rfl rfl))
  ·
   refine oK 8 rfl rfl rfl g3 (v_fi rfl GCon.f1 fd83_1 rfl (z := a_c.hasLow)) (oK 8 rfl rfl rfl g3 (v_loadI ty4 rfl) (oK 8 rfl rfl rfl g3 (v_not rfl) (oK 8 rfl rfl rfl g3 (v_move rfl) (rl_j (jb 17) je .nil h 5 rfl (fun q4 g4 h => ?_) (fun J5 h hJ5 => ?_)))))
   ·
    refine oK 8 rfl rfl rfl g3 (v_move rfl) (rl_j (jb 28) je .nil h 10 rfl (fun q7 g7 h => ?_) (fun J8 h hJ8 => ?_))
    ·
     exact oV (v_pick_f rfl g3 rfl) (hJ2 _ () h _ (ji 8 29 rfl rfl rfl))
    ·
     refine rl_condM (j := 18) h rfl (fun g9 h => ?_) (fun g9 h => ?_)
     ·
      refine oK 18 rfl rfl rfl g9 (v_fi rfl GCon.f2 fd83_2 rfl (z := a_c.hasHigh)) (oK 18 rfl rfl rfl g9 (v_loadI ty4 rfl) (oK 18 rfl rfl rfl g9 (v_not rfl) (oK 18 rfl rfl rfl g9 (v_move rfl) (rl_j (jb 27) je .nil h 5 rfl (fun q10 g10 h => ?_) (fun J11 h hJ11 => ?_)))))
      ·
       exact oK 8 rfl rfl rfl g3 (v_pick_t rfl g9 rfl) (hJ8 _ () h _ (ji 6 28 rfl rfl rfl))
      ·
       refine rl_condM (j := 22) h rfl (fun g12 h => ?_) (fun g12 h => ?_)
       ·
        refine oP 22 rfl rfl g12 (oP 22 rfl rfl g12 (oP 22 rfl rfl g12 (oP 22 rfl rfl g12 (oK 18 rfl rfl rfl g9 (v_pick_t rfl g12 rfl) ?_))))
        exact hJ11 _ () h _ (ji 5 27 rfl rfl rfl)
       ·
        refine oK 22 rfl rfl rfl g12 (v_move rfl) (oK 22 rfl rfl rfl g12 (v_fi rfl GCon.f5 fd83_5 rfl (z := a_c.high)) (oK 22 rfl rfl rfl g12 (v_loadI ty2 rfl) (oK 22 rfl rfl rfl g12 (v_leq rfl rfl) (oK 18 rfl rfl rfl g9 (v_pick_f rfl g12 rfl) ?_))))
        exact hJ11 _ () h _ (ji 5 27 rfl rfl rfl)
     ·
      refine oP 18 rfl rfl g9 (oP 18 rfl rfl g9 (oP 18 rfl rfl g9 (oP 18 rfl rfl g9 (op_passU rfl (dj := 22) rfl ?_))))
      refine op_passU rfl (dj := 22) rfl (op_passU rfl (dj := 22) rfl (op_passU rfl (dj := 22) rfl (oP 18 rfl rfl g9 (oK 8 rfl rfl rfl g3 (v_pick_f rfl g9 rfl) ?_))))
      exact hJ8 _ () h _ (ji 10 28 rfl rfl rfl)
   ·
    refine rl_condM (j := 12) h rfl (fun g6 h => ?_) (fun g6 h => ?_)
    ·
     refine oP 12 rfl rfl g6 (oP 12 rfl rfl g6 (oP 12 rfl rfl g6 (oP 12 rfl rfl g6 (oK 8 rfl rfl rfl g3 (v_pick_t rfl g6 rfl) ?_))))
     exact hJ5 _ () h _ (ji 5 17 rfl rfl rfl)
    ·
     refine oK 12 rfl rfl rfl g6 (v_move rfl) (oK 12 rfl rfl rfl g6 (v_fi rfl GCon.f4 fd83_4 rfl (z := a_c.low)) (oK 12 rfl rfl rfl g6 (v_loadI ty2 rfl) (oK 12 rfl rfl rfl g6 (v_geq rfl rfl) (oK 8 rfl rfl rfl g3 (v_pick_f rfl g6 rfl) ?_))))
     exact hJ5 _ () h _ (ji 5 17 rfl rfl rfl)


theorem value_checker_string_w : ∀ {a_c : GChk} {a_x : GTyp} {a_v : Val} {b_a_c : Nat} {r : Bool × GChk}, value_checker_string a_c a_x a_v = some r → Ctr Tryz.prog 86 [ptrv b_a_c (Fld.id GChk), isv (a_x), isv (a_v)] [boxE b_a_c (a_c : GChk)] (fun R H => R = oneOf [isv (r.1)] ∧ H = [boxE b_a_c (r.2)]) := by
 intro a_c a_x a_v b_a_c r h
 unfold value_checker_string at h
 refine spec_intro Tryz.func86 rfl (by decide +kernel) (by rfl) fun w0 S0 hT => ?_
 refine wsr (oT (t_boxIC (y := a_x) rfl (fun _ _ h => h) (oT (t_boxIC (y := a_v) rfl (fun _ _ h => h) (oA rfl (rnf ?_))))))
 refine wsr (oV (v_loadI ty46 rfl) (cal_inv h fun y1 hy1 h => oT (t_call (value_plain_w hy1) hT (.same rfl (.same rfl .nil)) .nil (fun R H' hR => ?_))))
 obtain ⟨rfl, rfl⟩ := hR
 refine oM rfl (rl_j (jb 14) je .nil h 5 rfl (fun q2 g2 h => ?_) (fun J3 h hJ3 => ?_))
 ·
  refine oM rfl (rl_j (jb 27) je .nil h 12 rfl (fun q5 g5 h => ?_) (fun J6 h hJ6 => ?_))
  ·
   refine oM rfl (rl_j (jb 37) je .nil h 9 rfl (fun q12 g12 h => ?_) (fun J13 h hJ13 => ?_))
   ·
    refine oA rfl (rnf (w_ret (ret_post (.tmp rfl .nil) (.cons .here .nil) ?_)))
    obtain rfl := Option.some.inj h
    exact ⟨rfl, rfl⟩
   ·
    refine rl_condM (j := 28) h rfl (fun g14 h => ?_) (fun g14 h => ?_)
    ·
     refine oK 28 rfl rfl rfl g14 (v_fi rfl GTyp.f0 fd87_0 rfl (z := a_x.kind)) (oK 28 rfl rfl rfl g14 (v_loadI ty3 rfl) (oK 28 rfl rfl rfl g14 (v_eql rfl rfl) (oK 28 rfl rfl rfl g14 (v_move rfl) (rl_j (jb 36) je .nil h 4 rfl (fun q15 g15 h => ?_) (fun J16 h hJ16 => ?_)))))
     ·
      exact oV (v_pick_t rfl g14 rfl) (hJ13 _ () h _ (join_imp 6 rfl rfl (mod_cons (j := 37) rfl (fun _ _ h => h) mod_nil) (.cons .here .nil)))
     ·
      refine rl_condM (j := 32) h rfl (fun g17 h => ?_) (fun g17 h => ?_)
      ·
       exact oP 32 rfl rfl g17 (oP 32 rfl rfl g17 (oP 32 rfl rfl g17 (oK 28 rfl rfl rfl g14 (v_pick_t rfl g17 rfl) (hJ16 _ () h _ (join_imp 4 rfl rfl (mod_cons (j := 36) rfl (fun _ _ h => h) mod_nil) (.cons .here .nil))))))
      ·
       refine oK 32 rfl rfl rfl g17 (v_fi rfl Val.f2 fd46_2 rfl (z := a_v.b)) (oK 32 rfl rfl rfl g17 (v_loadI ty42 rfl) (cal_inv h fun y18 hy18 h => op_take rfl rfl (dj := 32) rfl g17 (t_call (utf8_Valid_w hy18) hT (.same rfl .nil) .nil (fun R H' hR => ?_))))
       obtain ⟨rfl, rfl⟩ := hR
       exact oK 28 rfl rfl rfl g14 (v_pick_f rfl g17 rfl) (hJ16 _ () h _ (join_imp 4 rfl rfl (mod_cons (j := 36) rfl (fun _ _ h => h) mod_nil) (.cons .here .nil)))
    ·
     refine oP 28 rfl rfl g14 (oP 28 rfl rfl g14 (oP 28 rfl rfl g14 (oP 28 rfl rfl g14 (op_passU rfl (dj := 32) rfl ?_))))
     exact op_passU rfl (dj := 32) rfl (op_passU rfl (dj := 32) rfl (oP 28 rfl rfl g14 (oV (v_pick_f rfl g14 rfl) (hJ13 _ () h _ (join_imp 9 rfl rfl (mod_cons (j := 37) rfl (fun _ _ h => h) mod_nil) (.cons .here .nil))))))
  ·
   refine rl_condM (j := 15) h rfl (fun g7 h => ?_) (fun g7 h => ?_)
   ·
    refine oK 15 rfl rfl rfl g7 (v_fi rfl GTyp.f2 fd87_2 rfl (z := a_x.con)) (oK 15 rfl rfl rfl g7 (v_fi rfl GCon.f3 fd83_3 rfl (z := a_x.con.more)) (oK 15 rfl rfl rfl g7 (v_loadI ty4 rfl) (oK 15 rfl rfl rfl g7 (v_move rfl) (rl_j (jb 26) je .nil h 7 rfl (fun q8 g8 h => ?_) (fun J9 h hJ9 => ?_)))))
    ·
     exact oV (v_pick_t rfl g7 rfl) (hJ6 _ () h _ (join_imp 6 rfl rfl (mod_cons (j := 27) rfl (fun _ _ h => h) mod_nil) (.cons .here .nil)))
    ·
     refine rl_condM (j := 19) h rfl (fun g10 h => ?_) (fun g10 h => ?_)
     ·
      refine oP 19 rfl rfl g10 (oP 19 rfl rfl g10 (oP 19 rfl rfl g10 (oP 19 rfl rfl g10 (oP 19 rfl rfl g10 ?_))))
      exact oP 19 rfl rfl g10 (oK 15 rfl rfl rfl g7 (v_pick_t rfl g10 rfl) (hJ9 _ () h _ (join_imp 7 rfl rfl (mod_cons (j := 26) rfl (fun _ _ h => h) mod_nil) (.cons .here .nil))))
     ·
      refine oK 19 rfl rfl rfl g10 (v_fi rfl GTyp.f2 fd87_2 rfl (z := a_x.con)) (oK 19 rfl rfl rfl g10 (v_loadI ty83 rfl) (oK 19 rfl rfl rfl g10 (v_fi rfl Val.f2 fd46_2 rfl (z := a_v.b)) (oK 19 rfl rfl rfl g10 (v_loadI ty42 rfl) (oK 19 rfl rfl rfl g10 (v_ln (l := a_v.b) rfl (fun _ _ h => h) sl42) ?_))))
      refine cal_inv h fun y11 hy11 h => op_take rfl rfl (dj := 19) rfl g10 (t_call (bounds_Within_w hy11) hT (.same rfl (.same rfl .nil)) .nil (fun R H' hR => ?_))
      obtain ⟨rfl, rfl⟩ := hR
      exact oK 15 rfl rfl rfl g7 (v_pick_f rfl g10 rfl) (hJ9 _ () h _ (join_imp 7 rfl rfl (mod_cons (j := 26) rfl (fun _ _ h => h) mod_nil) (.cons .here .nil)))
   ·
    refine oP 15 rfl rfl g7 (oP 15 rfl rfl g7 (oP 15 rfl rfl g7 (oP 15 rfl rfl g7 (op_passU rfl (dj := 19) rfl ?_))))
    refine op_passU rfl (dj := 19) rfl (op_passU rfl (dj := 19) rfl (op_passU rfl (dj := 19) rfl (op_passU rfl (dj := 19) rfl (op_passU rfl (dj := 19) rfl ?_))))
    exact oP 15 rfl rfl g7 (oV (v_pick_f rfl g7 rfl) (hJ6 _ () h _ (join_imp 12 rfl rfl (mod_cons (j := 27) rfl (fun _ _ h => h) mod_nil) (.cons .here .nil))))
 ·
  refine rl_condM (j := 9) h rfl (fun g4 h => ?_) (fun g4 h => ?_)
  ·
   refine oK 9 rfl rfl rfl g4 (v_fi rfl Val.f2 fd46_2 rfl (z := a_v.b)) (oK 9 rfl rfl rfl g4 (v_loadI ty42 rfl) (oK 9 rfl rfl rfl g4 (v_ln (l := a_v.b) rfl (fun _ _ h => h) sl42) (oK 9 rfl rfl rfl g4 (v_leq rfl rfl) (oV (v_pick_t rfl g4 rfl) ?_))))
   exact hJ3 _ () h _ (join_imp 5 rfl rfl (mod_cons (j := 14) rfl (fun _ _ h => h) mod_nil) (.cons .here .nil))
  ·
   refine oP 9 rfl rfl g4 (oP 9 rfl rfl g4 (oP 9 rfl rfl g4 (oP 9 rfl rfl g4 (oV (v_pick_f rfl g4 rfl) ?_))))
   exact hJ3 _ () h _ (join_imp 5 rfl rfl (mod_cons (j := 14) rfl (fun _ _ h => h) mod_nil) (.cons .here .nil))


theorem order_there_w : ∀ {a_t : GTab} {a_i : Int} {r : GTyp}, order_there a_t a_i = some r → Ctr Tryz.prog 47 [isv (a_t), isv (a_i)] [] (fun R H => R = oneOf [isv (r)] ∧ H = []) := by
 intro a_t a_i r h
 unfold order_there at h
 refine spec_intro Tryz.func47 rfl (by decide +kernel) (by rfl) fun w0 S0 hT => ?_
 refine wsr (oT (t_boxIC (y := a_t) rfl (fun _ _ h => h) (oT (t_alloc _ ze87 fun b1 => rnf (w_seq ?_)))))
 refine wsr (oM rfl (oV (v_lss rfl rfl) (oM rfl (rl_j (jb 13) je .nil h 6 rfl (fun q2 g2 h => ?_) (fun J3 h hJ3 => ?_)))))
 ·
  refine rnf (w_condM h rfl (fun _ h => ?_) (fun _ h => ?_))
  ·
   refine wsr (oV (v_build (z := (GTyp.mk (0 : Int) ([] : (List Tag)) (GCon.mk false false false false (0 : Int) (0 : Int)) ([] : (List GItem)) ([] : (List GFld)) (0 : Int) false (0 : Int))) rfl bu87 ze87 .nil) (oT (t_storeC (y' := ((GTyp.mk (0 : Int) ([] : (List Tag)) (GCon.mk false false false false (0 : Int) (0 : Int)) ([] : (List GItem)) ([] : (List GFld)) (0 : Int) false (0 : Int)) : GTyp)) ty87 rfl rfl (fun _ _ h => h) .here rfl (rnf (w_ret ?_)))))
   refine ret_nxt (ret_post (.cell rfl .here ty87 .nil) .nil ?_)
   obtain rfl := Option.some.inj h
   exact ⟨rfl, rfl⟩
  ·
   refine wkf (wsr (oV (v_fi rfl GTab.f3 fd26_3 rfl (z := a_t.types)) (oV (v_loadI ty24 rfl) (oM rfl ?_))))
   refine cal_inv h fun y5 hy5 h => oV (v_ix (l := a_t.types) rfl (fun _ _ h => h) rfl sl24 hy5) (oV (v_loadI ty87 rfl) (oT (t_storeC (y' := (y5 : GTyp)) ty87 rfl rfl (fun _ _ h => h) .here rfl (rnf ?_))))
   refine w_ret (ret_post (.cell rfl .here ty87 .nil) .nil ?_)
   obtain rfl := Option.some.inj h
   exact ⟨rfl, rfl⟩
 ·
  refine rl_condM (j := 7) h rfl (fun g4 h => ?_) (fun g4 h => ?_)
  ·
   refine oP 7 rfl rfl g4 (oP 7 rfl rfl g4 (oP 7 rfl rfl g4 (oP 7 rfl rfl g4 (oP 7 rfl rfl g4 ?_))))
   exact oV (v_pick_t rfl g4 rfl) (hJ3 _ () h _ (join_imp 6 rfl rfl (mod_cons (j := 13) rfl (fun _ _ h => h) mod_nil) (.cons .here .nil)))
  ·
   refine oK 7 rfl rfl rfl g4 (v_move rfl) (oK 7 rfl rfl rfl g4 (v_fi rfl GTab.f3 fd26_3 rfl (z := a_t.types)) (oK 7 rfl rfl rfl g4 (v_loadI ty24 rfl) (oK 7 rfl rfl rfl g4 (v_ln (l := a_t.types) rfl (fun _ _ h => h) sl24) (oK 7 rfl rfl rfl g4 (v_geq rfl rfl) ?_))))
   exact oV (v_pick_f rfl g4 rfl) (hJ3 _ () h _ (join_imp 6 rfl rfl (mod_cons (j := 13) rfl (fun _ _ h => h) mod_nil) (.cons .here .nil)))

end Go.Proofs.YtnnijoepfgnlfaaGreatDoor


namespace Go.Proofs.YtnnijoepfgnlfaaGreatDoor
open Go.Sy
set_option maxRecDepth 4000
theorem order_places_w : ∀ {a_from_ : Int} {a_to : Int} {r : (List Int)}, order_places a_from_ a_to = some r → Ctr Tryz.prog 48 [isv (a_from_), isv (a_to)] [] (fun R H => ∃ u1 : Vt, R = oneOf [vecv u1 ((r).length)] ∧ H = [vecE u1 (r)]) := by
 intro a_from_ a_to r h
 unfold order_places at h
 refine spec_intro Tryz.func48 rfl (by decide +kernel) (by rfl) fun w0 S0 hT => ?_
 refine wsr (oA rfl (rl_upd (upd_vec (α := Int)) (rl_upd (upd_slot 4 rfl nilvV) (rnf ?_))))
 refine wsr (oA rfl (rl_upd (upd_vec (α := Int)) (rl_upd (upd_slot 5 rfl nilvV) (rnf ?_))))
 refine w_seq (wsr (oM rfl (oA rfl (rnf ?_))))
 refine w_block (w_lp (ι := (List Int) × Int) (γ := Vt) (fun q3 g3 => [(5, vecv g3 (q3.1.length)), (6, isv (q3.2))]) (fun q3 g3 => [vecE g3 (q3.1 : List Int)]) h (none) (mod_cons (j := 5) rfl (vecvE (by first | rfl | simp)) (mod_cons (j := 6) rfl (fun _ _ h => h) mod_nil)) (.cons .here .nil) (fun L4 q3 g3 Q13 h hL4 eL4 rL4 => ?_))
 refine w_seq (wsr (oM rfl (oM rfl (oV (v_lss rfl rfl) ?_))))
 refine rnf (w_condM h rfl (fun _ h => ?_) (fun _ h => ?_))
 ·
  refine wkf (w_seq (w_block (w_region (oM rfl ?_))))
  refine oM rfl (oT (t_buildSlice (l := ([q3.2] : (List Int))) el23 (.cons rfl (fun _ _ h => h) .nil) rfl rfl (asr_inv h fun q11 h => oT (t_vappF (m := ([q3.2] : (List Int))) ap23_23 rfl rfl appv_isv .here (by first | rfl | simp) q11 fun v10 => ?_))))
  refine oA rfl (rl_nil (fin_block (fin_nxt (w_region ?_))))
  refine oM rfl (ck_inv h fun q12 h => oV (v_add rfl rfl q12) (oA rfl (rl_nil ?_)))
  exact hL4 _ (v10) h _ (join_imp 13 rfl rfl (mod_cons (j := 5) rfl (vecvE (by first | rfl | simp)) (mod_cons (j := 6) rfl (fun _ _ h => h) mod_nil)) (.cons .here (.cons .here .nil)))
 ·
  refine w_exit (exi_nxt (eL4 _ _ (exi_block (fin_nxt ?_))))
  refine wsr (oM rfl (oA rfl (rnf (w_ret ?_))))
  refine ret_post (.as rfl (vecvE (by first | rfl | simp)) .nil) (.cons .here .nil) ?_
  obtain rfl := Option.some.inj h
  exact ⟨g3, rfl, rfl⟩


theorem order_Slots_w : ∀ {a_t : GTab} {a_i : Int} {r : (List (List Int))}, order_Slots a_t a_i = some r → Ctr Tryz.prog 21 [isv (a_t), isv (a_i)] [] (fun R H => R = oneOf [isv (r)] ∧ H = []) := by
 intro a_t a_i r h
 unfold order_Slots at h
 refine spec_intro Tryz.func21 rfl (by decide +kernel) (by rfl) fun w0 S0 hT => ?_
 refine wsr (oT (t_boxIC (y := a_t) rfl (fun _ _ h => h) (oA rfl (rl_upd (upd_tok) (rl_upd (upd_vec (α := NL Int)) ?_)))))
 refine rl_upd (upd_slot 4 rfl nilvV) (rnf (wsr (oV (v_loadI ty26 rfl) (oM rfl ?_))))
 refine cal_inv h fun y3 hy3 h => oT (t_call (order_there_w hy3) hT (.same rfl (.same rfl .nil)) .nil (fun R H' hR => ?_))
 obtain ⟨rfl, rfl⟩ := hR
 refine oT (t_alloc _ ze87 fun b4 => oT (t_storeC (y' := (y3 : GTyp)) ty87 rfl rfl (fun _ _ h => h) .here rfl (rl_upd (upd_imm 5 .here rfl) (rnf (w_seq ?_)))))
 refine wsr (oV (v_fi rfl GTyp.f0 fd87_0 rfl (z := y3.kind)) (oV (v_loadI ty3 rfl) (oV (v_neq rfl rfl) (oM rfl ?_))))
 refine rl_j (jb 21) je .nil h 4 rfl (fun q5 g5 h => ?_) (fun J6 h hJ6 => ?_)
 ·
  refine oM rfl (rl_j (jb 26) je .nil h 4 rfl (fun q8 g8 h => ?_) (fun J9 h hJ9 => ?_))
  ·
   refine rnf (w_condM h rfl (fun _ h => ?_) (fun _ h => ?_))
   ·
    refine wsr (oA rfl (rl_upd (upd_tok) (rl_upd (upd_vec (α := NL Int)) (rl_upd (upd_slot 4 rfl nilvV) ?_))))
    refine rnf (w_ret (ret_nxt (ret_upd (upd_frzF 4 .here rfl (by first | rfl | simp)) ?_)))
    refine ret_upd (upd_slot 4 rfl (nest_isv (t := none) (L := (([] : (List (List Int))) : List (List Int))))) (ret_post (.tmp rfl .nil) .nil ?_)
    obtain rfl := Option.some.inj h
    exact ⟨rfl, rfl⟩
   ·
    refine wkf (wsr (oA rfl (rl_upd (upd_tok) (rl_upd (upd_vec (α := NL Int)) ?_))))
    refine rl_upd (upd_slot 6 rfl nilvV) (rnf (w_seq (wsr (oV (v_fi rfl GTyp.f5 fd87_5 rfl (z := y3.root)) ?_))))
    refine oV (v_loadI ty3 rfl) (oV (v_max rfl rfl) (oV (v_fi rfl GTyp.f4 fd87_4 rfl (z := y3.fields)) (oV (v_loadI ty85 rfl) (oV (v_ln (l := y3.fields) rfl (fun _ _ h => h) sl85) ?_))))
    refine cal_inv h fun y15 hy15 h => oT (t_call (order_places_w hy15) hT (.same rfl (.same rfl .nil)) .nil (fun R H' hR => ?_))
    obtain ⟨v16, rfl, rfl⟩ := hR
    refine oV (v_vlen sl23 rfl) (oM rfl (rnf (w_block (w_lp (ι := (List (List Int)) × Int) (γ := Vt × Tok) (fun q17 g17 => [(6, vecv g17.1 (q17.1.length)), (35, isv (q17.2))]) (fun q17 g17 => [vecE g17.1 (nestL g17.2 (q17.1 : List (List Int))), tokE g17.2]) h (none, none) (mod_cons (j := 6) rfl (vecvE (by first | rfl | simp)) (mod_cons (j := 35) rfl (fun _ _ h => h) mod_nil)) (.cons (.there .here) (.cons (.there .here) .nil)) (fun L18 q17 g17 Q79 h hL18 eL18 rL18 => ?_)))))
    refine wsr (oV (v_lss rfl rfl) (rnf (w_seq (w_condM h rfl (fun _ h => ?_) (fun _ h => ?_)))))
    ·
     refine wkf (w_seq (w_J (ι := (List (List Int))) (γ := Vt × Tok) (fun q49 g49 => [(6, vecv g49.1 (q49.length))]) (fun q49 g49 => [vecE g49.1 (nestL g49.2 (q49 : List (List Int))), tokE g49.2]) (.cons .here (.cons .here .nil)) h (fun q49 g49 h => ?_) (fun J50 h hJ50 => ?_)))
     ·
      refine w_region (ck_inv h fun q78 h => oV (v_add rfl rfl q78) (oM rfl (rl_nil ?_)))
      exact hL18 _ (g49.1, g49.2) h _ (join_imp 6 rfl rfl (mod_cons (j := 6) rfl (vecvE (by first | rfl | simp)) (mod_cons (j := 35) rfl (fun _ _ h => h) mod_nil)) (.cons .here (.cons .here (.cons .here (.cons .here (.cons .here .nil))))))
     ·
      refine w_block (wsr (asd_inv h fun q51 h => oV (v_vidx (α := Int) sl23 rfl rfl q51.1 q51.2) (cal_inv h fun y52 hy52 h => ?_)))
      refine oT (t_vload ty3 rfl (.there (.there .here)) hy52 (oA rfl (rnf (wsr (oM rfl ?_)))))
      refine oV (v_vlen sl36 rfl) (ck_inv h fun q53 h => oV (v_sub rfl rfl q53) (oA rfl (rnf ?_)))
      refine w_seq (wsr (oV (v_fi rfl GTyp.f4 fd87_4 rfl (z := y3.fields)) (oV (v_loadI ty85 rfl) (oM rfl ?_))))
      refine cal_inv h fun y54 hy54 h => oV (v_ix (l := y3.fields) rfl (fun _ _ h => h) rfl sl85 hy54) (oV (v_fi rfl GFld.f5 fd92_5 rfl (z := y54.group)) (oV (v_loadI ty3 rfl) (oA rfl ?_)))
      refine rnf (wsr (oV (v_fi rfl GTyp.f0 fd87_0 rfl (z := y3.kind)) (oV (v_loadI ty3 rfl) (oV (v_neq rfl rfl) ?_))))
      refine oM rfl (rl_j (jb 54) je .nil h 3 rfl (fun q55 g55 h => ?_) (fun J56 h hJ56 => ?_))
      ·
       refine oM rfl (rl_j (jb 58) je .nil h 3 rfl (fun q58 g58 h => ?_) (fun J59 h hJ59 => ?_))
       ·
        refine oM rfl (rl_j (jb 69) je .nil h 10 rfl (fun q61 g61 h => ?_) (fun J62 h hJ62 => ?_))
        ·
         refine rnf (w_condM h rfl (fun _ h => ?_) (fun _ h => ?_))
         ·
          refine wsr (oM rfl (oM rfl (oM rfl (oM rfl ?_))))
          refine asd_inv h fun q66 h => oV (v_vidx (α := NL Int) sl36 rfl rfl q66.1 q66.2) (asd_inv h fun q67 h => cal_inv h fun y68 hy68 h => oT (t_vload ty23 rfl .here (nestL_last q67 hy68) ?_))
          refine rl_upd (upd_slot 75 rfl nl_app) (oM rfl (oT (t_buildSlice (l := ([y52] : (List Int))) el23 (.cons rfl (fun _ _ h => h) .nil) rfl rfl (asr_inv h fun q71 h => oT (t_appC (l := y68) (m := ([y52] : (List Int))) ap23_23 rfl (fun _ _ h => h) rfl appv_isv (.there .here) q71 fun t70 => ?_)))))
          refine asd_inv h fun q72 h => oV (v_vidx (α := NL Int) sl36 rfl rfl q72.1 q72.2) (asd_inv h fun q73 h => cal_inv h fun y74 hy74 h => rl_upd (upd_slot 78 rfl app_nl) ?_)
          refine oT (t_vstore ty23 rfl rfl (.there .here) (nestL_last q73 hy74) (rl_upd (upd_vecq .here (nestL_set q73)) (rl_upd (upd_slot (R' := vecv g17.1 (q17.1.set ((((q17.1.length : Nat) : Int) - (1 : Int)).toNat) (y68 ++ ([y52] : (List Int)))).length) 6 rfl (vecvE (by simp))) ?_)))
          refine rl_upd (upd_slot (R' := vecv g17.1 (q17.1.set ((((q17.1.length : Nat) : Int) - (1 : Int)).toNat) (y68 ++ ([y52] : (List Int)))).length) 39 rfl (vecvE (by simp))) ?_
          refine rl_upd (upd_slot (R' := vecv g17.1 (q17.1.set ((((q17.1.length : Nat) : Int) - (1 : Int)).toNat) (y68 ++ ([y52] : (List Int)))).length) 70 rfl (vecvE (by simp))) ?_
          refine rl_upd (upd_slot (R' := vecv g17.1 (q17.1.set ((((q17.1.length : Nat) : Int) - (1 : Int)).toNat) (y68 ++ ([y52] : (List Int)))).length) 72 rfl (vecvE (by simp))) ?_
          exact rnf (w_exit (exi_nxt (exi_block (hJ50 _ (g17.1, t70) h _ (join_imp 39 rfl rfl (mod_cons (j := 6) rfl (vecvE (by first | rfl | simp)) mod_nil) (.cons .here (.cons .here (.cons .here (.cons .here (.cons .here .nil))))))))))
         ·
          refine wkf (w_region (oM rfl (oM rfl (oT (t_buildSlice (l := ([y52] : (List Int))) el23 (.cons rfl (fun _ _ h => h) .nil) rfl rfl ?_)))))
          refine rl_upd (upd_tok) (oT (t_buildSlice (l := [NL.mk (([y52] : (List Int))) (some none)]) el36 (.cons rfl app_nl .nil) rfl rfl (asr_inv h fun q77 h => oT (t_vappF (m := [NL.mk (([y52] : (List Int))) (some none)]) ap36_36 rfl rfl appv_isv (.there .here) (by first | rfl | simp) (by rw [nestL_length]; exact q77) fun v76 => ?_))))
          refine rl_upd (upd_nest .here) (rl_upd (upd_slot (R' := vecv v76 (q17.1 ++ [([y52] : (List Int))]).length) 84 rfl (vecvE (by simp))) ?_)
          exact oA rfl (rl_nil (fin_block (hJ50 _ (v76, none) h _ (join_imp 30 rfl rfl (mod_cons (j := 6) rfl (vecvE (by first | rfl | simp)) mod_nil) (.cons .here (.cons .here (.cons (.there .here) (.cons (.there .here) (.cons (.there .here) .nil)))))))))
        ·
         refine rl_condM (j := 59) h rfl (fun g63 h => ?_) (fun g63 h => ?_)
         ·
          refine oK 59 rfl rfl rfl g63 (v_fi rfl GTyp.f4 fd87_4 rfl (z := y3.fields)) (oK 59 rfl rfl rfl g63 (v_loadI ty85 rfl) (oK 59 rfl rfl rfl g63 (v_move rfl) (ck_inv h fun q64 h => oK 59 rfl rfl rfl g63 (v_sub rfl rfl q64) ?_)))
          refine cal_inv h fun y65 hy65 h => oK 59 rfl rfl rfl g63 (v_ix (l := y3.fields) rfl (fun _ _ h => h) rfl sl85 hy65) (oK 59 rfl rfl rfl g63 (v_fi rfl GFld.f5 fd92_5 rfl (z := y65.group)) (oK 59 rfl rfl rfl g63 (v_loadI ty3 rfl) (oK 59 rfl rfl rfl g63 (v_move rfl) ?_)))
          exact oK 59 rfl rfl rfl g63 (v_eql rfl rfl) (oV (v_pick_t rfl g63 rfl) (hJ62 _ () h _ (join_imp 10 rfl rfl (mod_cons (j := 69) rfl (fun _ _ h => h) mod_nil) (.cons .here (.cons .here (.cons .here (.cons .here (.cons .here .nil))))))))
         ·
          refine oP 59 rfl rfl g63 (oP 59 rfl rfl g63 (oP 59 rfl rfl g63 (oP 59 rfl rfl g63 (oP 59 rfl rfl g63 ?_))))
          refine oP 59 rfl rfl g63 (oP 59 rfl rfl g63 (oP 59 rfl rfl g63 (oP 59 rfl rfl g63 (oV (v_pick_f rfl g63 rfl) ?_))))
          exact hJ62 _ () h _ (join_imp 10 rfl rfl (mod_cons (j := 69) rfl (fun _ _ h => h) mod_nil) (.cons .here (.cons .here (.cons .here (.cons .here (.cons .here .nil))))))
       ·
        refine rl_condM (j := 55) h rfl (fun g60 h => ?_) (fun g60 h => ?_)
        ·
         exact oK 55 rfl rfl rfl g60 (v_move rfl) (oK 55 rfl rfl rfl g60 (v_geq rfl rfl) (oV (v_pick_t rfl g60 rfl) (hJ59 _ () h _ (join_imp 3 rfl rfl (mod_cons (j := 58) rfl (fun _ _ h => h) mod_nil) (.cons .here (.cons .here (.cons .here (.cons .here (.cons .here .nil)))))))))
        ·
         exact oP 55 rfl rfl g60 (oP 55 rfl rfl g60 (oV (v_pick_f rfl g60 rfl) (hJ59 _ () h _ (join_imp 3 rfl rfl (mod_cons (j := 58) rfl (fun _ _ h => h) mod_nil) (.cons .here (.cons .here (.cons .here (.cons .here (.cons .here .nil)))))))))
      ·
       refine rl_condM (j := 51) h rfl (fun g57 h => ?_) (fun g57 h => ?_)
       ·
        exact oK 51 rfl rfl rfl g57 (v_move rfl) (oK 51 rfl rfl rfl g57 (v_gtr rfl rfl) (oV (v_pick_t rfl g57 rfl) (hJ56 _ () h _ (join_imp 3 rfl rfl (mod_cons (j := 54) rfl (fun _ _ h => h) mod_nil) (.cons .here (.cons .here (.cons .here (.cons .here (.cons .here .nil)))))))))
       ·
        exact oP 51 rfl rfl g57 (oP 51 rfl rfl g57 (oV (v_pick_f rfl g57 rfl) (hJ56 _ () h _ (join_imp 3 rfl rfl (mod_cons (j := 54) rfl (fun _ _ h => h) mod_nil) (.cons .here (.cons .here (.cons .here (.cons .here (.cons .here .nil)))))))))
    ·
     refine w_exit (exi_nxt (eL18 _ _ (exi_block (fin_nxt ?_))))
     refine wsr (oM rfl (oA rfl (rnf (w_ret ?_))))
     refine ret_upd (upd_frzF 4 .here rfl (by first | rfl | simp)) ?_
     refine ret_upd (upd_slot 4 rfl (nest_isv (t := g17.2) (L := (q17.1 : List (List Int))))) (ret_post (.tmp rfl .nil) .nil ?_)
     obtain rfl := Option.some.inj h
     exact ⟨rfl, rfl⟩
  ·
   refine rl_condM (j := 22) h rfl (fun g10 h => ?_) (fun g10 h => ?_)
   ·
    exact oK 22 rfl rfl rfl g10 (v_fi rfl GTyp.f0 fd87_0 rfl (z := y3.kind)) (oK 22 rfl rfl rfl g10 (v_loadI ty3 rfl) (oK 22 rfl rfl rfl g10 (v_neq rfl rfl) (oV (v_pick_t rfl g10 rfl) (hJ9 _ () h _ (join_imp 4 rfl rfl (mod_cons (j := 26) rfl (fun _ _ h => h) mod_nil) (.cons .here (.cons .here .nil)))))))
   ·
    exact oP 22 rfl rfl g10 (oP 22 rfl rfl g10 (oP 22 rfl rfl g10 (oV (v_pick_f rfl g10 rfl) (hJ9 _ () h _ (join_imp 4 rfl rfl (mod_cons (j := 26) rfl (fun _ _ h => h) mod_nil) (.cons .here (.cons .here .nil)))))))
 ·
  refine rl_condM (j := 17) h rfl (fun g7 h => ?_) (fun g7 h => ?_)
  ·
   exact oK 17 rfl rfl rfl g7 (v_fi rfl GTyp.f0 fd87_0 rfl (z := y3.kind)) (oK 17 rfl rfl rfl g7 (v_loadI ty3 rfl) (oK 17 rfl rfl rfl g7 (v_neq rfl rfl) (oV (v_pick_t rfl g7 rfl) (hJ6 _ () h _ (join_imp 4 rfl rfl (mod_cons (j := 21) rfl (fun _ _ h => h) mod_nil) (.cons .here (.cons .here .nil)))))))
  ·
   exact oP 17 rfl rfl g7 (oP 17 rfl rfl g7 (oP 17 rfl rfl g7 (oV (v_pick_f rfl g7 rfl) (hJ6 _ () h _ (join_imp 4 rfl rfl (mod_cons (j := 21) rfl (fun _ _ h => h) mod_nil) (.cons .here (.cons .here .nil)))))))


theorem tags_Less_w : ∀ {a_a : Tag} {a_b : Tag} {r : Bool}, tags_Less a_a a_b = some r → Ctr Tryz.prog 42 [isv (a_a), isv (a_b)] [] (fun R H => R = oneOf [isv (r)] ∧ H = []) := by
 intro a_a a_b r h
 unfold tags_Less at h
 refine spec_intro Tryz.func42 rfl (by decide +kernel) (by rfl) fun w0 S0 hT => ?_
 refine wsr (oT (t_boxIC (y := a_a) rfl (fun _ _ h => h) (oT (t_boxIC (y := a_b) rfl (fun _ _ h => h) (oA rfl (rnf ?_))))))
 refine w_seq (wsr (oV (v_fi rfl Tag.f0 fd31_0 rfl (z := a_a.cls)) (oV (v_loadI ty3 rfl) (oV (v_fi rfl Tag.f0 fd31_0 rfl (z := a_b.cls)) ?_))))
 refine oV (v_loadI ty3 rfl) (oV (v_neq rfl rfl) (rnf (w_condM h rfl (fun _ h => ?_) (fun _ h => ?_))))
 ·
  refine wsr (oV (v_fi rfl Tag.f0 fd31_0 rfl (z := a_a.cls)) (oV (v_loadI ty3 rfl) (oV (v_fi rfl Tag.f0 fd31_0 rfl (z := a_b.cls)) (oV (v_loadI ty3 rfl) ?_))))
  refine oV (v_lss rfl rfl) (oA rfl (rnf (w_ret (ret_nxt ?_))))
  refine ret_post (.tmp rfl .nil) .nil ?_
  obtain rfl := Option.some.inj h
  exact ⟨rfl, rfl⟩
 ·
  refine wkf (wsr (oV (v_fi rfl Tag.f1 fd31_1 rfl (z := a_a.num)) (oV (v_loadI ty3 rfl) (oV (v_fi rfl Tag.f1 fd31_1 rfl (z := a_b.num)) ?_))))
  refine oV (v_loadI ty3 rfl) (oV (v_lss rfl rfl) (oA rfl (rnf (w_ret ?_))))
  refine ret_post (.tmp rfl .nil) .nil ?_
  obtain rfl := Option.some.inj h
  exact ⟨rfl, rfl⟩


theorem value_checker_raws_w : ∀ {a_c : GChk} {a_i : Int} {a_v : Val} {b_a_c : Nat} {r : Bool × GChk}, value_checker_raws a_c a_i a_v = some r → Ctr Tryz.prog 125 [ptrv b_a_c (Fld.id GChk), isv (a_i), isv (a_v)] [boxE b_a_c (a_c : GChk)] (fun R H => R = oneOf [isv (r.1)] ∧ H = [boxE b_a_c (r.2)]) := by
 intro a_c a_i a_v b_a_c r h
 unfold value_checker_raws at h
 refine spec_intro Tryz.func125 rfl (by decide +kernel) (by rfl) fun w0 S0 hT => ?_
 refine wsr (oT (t_boxIC (y := a_v) rfl (fun _ _ h => h) (oA rfl (rnf (wsr ?_)))))
 refine oM rfl (oV (v_nilCheck rfl) (oV (v_fa rfl GChk.f0 fd103_0) (oV (v_fa rfl GTbd.f0 fd101_0) (oV (v_fa rfl GTab.f3 fd26_3) ?_))))
 refine oT (t_loadC (R := isv (a_c.tabled.t.types)) ty24 rfl .here (fun _ _ h => h) (oM rfl (cal_inv h fun y1 hy1 h => oV (v_ix (l := a_c.tabled.t.types) rfl (fun _ _ h => h) rfl sl24 hy1) (oV (v_loadI ty87 rfl) ?_))))
 refine oT (t_alloc _ ze87 fun b2 => oT (t_storeC (y' := (y1 : GTyp)) ty87 rfl rfl (fun _ _ h => h) .here rfl (rl_upd (upd_imm 7 .here rfl) (rnf (w_seq ?_)))))
 refine wsr (oV (v_fi rfl Val.f5 fd46_5 rfl (z := a_v.more)) (oV (v_loadI ty44 rfl) (oV (v_ln (l := a_v.more) rfl (fun _ _ h => h) sl44) (oV (v_eql rfl rfl) ?_))))
 refine rnf (w_condM h rfl (fun _ h => ?_) (fun _ h => ?_))
 ·
  refine wsr (oV (v_fi rfl Val.f4 fd46_4 rfl (z := a_v.rule)) (oV (v_loadI ty3 rfl) (oV (v_eql rfl rfl) (oA rfl ?_))))
  refine rnf (w_ret (ret_nxt (ret_post (.tmp rfl .nil) (.cons .here .nil) ?_)))
  obtain rfl := Option.some.inj h
  exact ⟨rfl, rfl⟩
 ·
  refine wkf (w_seq (wsr (oV (v_fi rfl GTyp.f6 fd87_6 rfl (z := y1.more)) (oV (v_loadI ty4 rfl) ?_))))
  refine oV (v_not rfl) (oM rfl (rl_j (jb 42) je .nil h 9 rfl (fun q3 g3 h => ?_) (fun J4 h hJ4 => ?_)))
  ·
   refine rnf (w_condM h rfl (fun _ h => ?_) (fun _ h => ?_))
   ·
    refine wsr (oA rfl (rnf (w_ret (ret_nxt ?_))))
    refine ret_post (.tmp rfl .nil) (.cons .here .nil) ?_
    obtain rfl := Option.some.inj h
    exact ⟨rfl, rfl⟩
   ·
    refine wkf (wsr (oM rfl (oV (v_nilCheck rfl) (oV (v_fa rfl GChk.f0 fd103_0) ?_))))
    refine oV (v_fa rfl GTbd.f0 fd101_0) (oT (t_loadC (R := isv (a_c.tabled.t)) ty26 rfl .here (fun _ _ h => h) (oM rfl (cal_inv h fun y9 hy9 h => oT (t_call (order_Slots_w hy9) hT (.same rfl (.same rfl .nil)) .nil (fun R H' hR => ?_))))))
    obtain ⟨rfl, rfl⟩ := hR
    refine oV (v_ln (l := y9) rfl (fun _ _ h => h) sl36) (oA rfl (rnf (wsr (oT (t_alloc _ ze31 fun b10 => ?_)))))
    refine rnf (w_seq (wsr (oV (v_fi rfl Val.f5 fd46_5 rfl (z := a_v.more)) (oV (v_loadI ty44 rfl) ?_))))
    refine oV (v_ln (l := a_v.more) rfl (fun _ _ h => h) sl44) (oM rfl (rnf (w_block (w_lp (ι := Int × Int × Tag × GChk) (γ := Unit) (fun q11 g11 => [(8, isv (q11.1)), (54, isv (q11.2.1))]) (fun q11 g11 => [boxE b10 (q11.2.2.1 : Tag), boxE b_a_c (q11.2.2.2 : GChk)]) h () (mod_cons (j := 8) rfl (fun _ _ h => h) (mod_cons (j := 54) rfl (fun _ _ h => h) mod_nil)) (.cons .here (.cons .here .nil)) (fun L12 q11 g11 Q69 h hL12 eL12 rL12 => ?_)))))
    refine wsr (oV (v_lss rfl rfl) (rnf (w_seq (w_condM h rfl (fun _ h => ?_) (fun _ h => ?_)))))
    ·
     refine wkf (w_seq (w_J (ι := Int × Tag × GChk) (γ := Unit) (fun q41 g41 => [(8, isv (q41.1))]) (fun q41 g41 => [boxE b10 (q41.2.1 : Tag), boxE b_a_c (q41.2.2 : GChk)]) (.cons .here (.cons .here .nil)) h (fun q41 g41 h => ?_) (fun J42 h hJ42 => ?_)))
     ·
      refine w_region (ck_inv h fun q68 h => oV (v_add rfl rfl q68) (oM rfl (rl_nil ?_)))
      exact hL12 _ () h _ (join_imp 6 rfl rfl (mod_cons (j := 8) rfl (fun _ _ h => h) (mod_cons (j := 54) rfl (fun _ _ h => h) mod_nil)) (.cons .here (.cons .here .nil)))
     ·
      refine w_block (wsr (oM rfl (cal_inv h fun y43 hy43 h => oV (v_ix (l := a_v.more) rfl (fun _ _ h => h) rfl sl44 hy43) ?_)))
      refine oV (v_loadI ty112 rfl) (oT (t_alloc _ ze112 fun b44 => oA rfl (oT (t_storeC (y' := (y43 : Raw)) ty112 rfl rfl (fun _ _ h => h) .here rfl (rl_upd (upd_imm 11 .here rfl) ?_)))))
      refine rnf (w_seq (wsr (oV (v_fi rfl Val.f4 fd46_4 rfl (z := a_v.rule)) (oV (v_loadI ty3 rfl) ?_))))
      refine oV (v_eql rfl rfl) (rnf (w_condM h rfl (fun _ h => ?_) (fun _ h => ?_)))
      ·
       refine w_seq (wsr (oV (v_fi rfl Raw.f0 fd112_0 rfl (z := y43.n)) (oV (v_loadI ty3 rfl) (oM rfl ?_))))
       refine oV (v_lss rfl rfl) (oM rfl (rl_j (jb 70) je .nil h 4 rfl (fun q45 g45 h => ?_) (fun J46 h hJ46 => ?_)))
       ·
        refine oM rfl (rl_j (jb 76) je .nil h 5 rfl (fun q48 g48 h => ?_) (fun J49 h hJ49 => ?_))
        ·
         refine rnf (w_condM h rfl (fun _ h => ?_) (fun _ h => ?_))
         ·
          refine wsr (oA rfl (rnf (w_ret (ret_nxt ?_))))
          refine ret_nxt (ret_block (ret_nxt (rL12 _ (ret_block ?_))))
          refine ret_nxt (ret_post (.tmp rfl .nil) (.cons (.there .here) .nil) ?_)
          obtain rfl := Option.some.inj h
          exact ⟨rfl, rfl⟩
         ·
          refine wkf (wsr (oV (v_fi rfl Raw.f0 fd112_0 rfl (z := y43.n)) (oV (v_loadI ty3 rfl) (ck_inv h fun q52 h => ?_))))
          refine oV (v_add rfl rfl q52) (oA rfl (rnf (w_exit (exi_nxt ?_))))
          exact exi_block (hJ42 _ () h _ (join_imp 21 rfl rfl (mod_cons (j := 8) rfl (fun _ _ h => h) mod_nil) (.cons .here (.cons .here .nil))))
        ·
         refine rl_condM (j := 71) h rfl (fun g50 h => ?_) (fun g50 h => ?_)
         ·
          refine oP 71 rfl rfl g50 (oP 71 rfl rfl g50 (oP 71 rfl rfl g50 (oP 71 rfl rfl g50 (oV (v_pick_t rfl g50 rfl) ?_))))
          exact hJ49 _ () h _ (join_imp 5 rfl rfl (mod_cons (j := 76) rfl (fun _ _ h => h) mod_nil) (.cons .here (.cons .here .nil)))
         ·
          refine oK 71 rfl rfl rfl g50 (v_fi rfl Raw.f1 fd112_1 rfl (z := y43.b)) (oK 71 rfl rfl rfl g50 (v_loadI ty42 rfl) (cal_inv h fun y51 hy51 h => op_take rfl rfl (dj := 71) rfl g50 (t_call (value_open_w hy51) hT (.same rfl .nil) .nil (fun R H' hR => ?_))))
          obtain ⟨rfl, rfl⟩ := hR
          exact oK 71 rfl rfl rfl g50 (v_not rfl) (oV (v_pick_f rfl g50 rfl) (hJ49 _ () h _ (join_imp 5 rfl rfl (mod_cons (j := 76) rfl (fun _ _ h => h) mod_nil) (.cons .here (.cons .here .nil)))))
       ·
        refine rl_condM (j := 66) h rfl (fun g47 h => ?_) (fun g47 h => ?_)
        ·
         exact oP 66 rfl rfl g47 (oP 66 rfl rfl g47 (oP 66 rfl rfl g47 (oV (v_pick_t rfl g47 rfl) (hJ46 _ () h _ (join_imp 4 rfl rfl (mod_cons (j := 70) rfl (fun _ _ h => h) mod_nil) (.cons .here (.cons .here .nil)))))))
        ·
         exact oK 66 rfl rfl rfl g47 (v_fi rfl Raw.f0 fd112_0 rfl (z := y43.n)) (oK 66 rfl rfl rfl g47 (v_loadI ty3 rfl) (oK 66 rfl rfl rfl g47 (v_geq rfl rfl) (oV (v_pick_f rfl g47 rfl) (hJ46 _ () h _ (join_imp 4 rfl rfl (mod_cons (j := 70) rfl (fun _ _ h => h) mod_nil) (.cons .here (.cons .here .nil)))))))
      ·
       refine wkf (wsr (oM rfl (oM rfl (oV (v_fi rfl Raw.f1 fd112_1 rfl (z := y43.b)) ?_))))
       refine oV (v_loadI ty42 rfl) (cal_inv h fun y53 hy53 h => oT (t_call (value_checker_foreign_w hy53) hT (.same rfl (.same rfl (.same rfl .nil))) (.cons (.there .here) .nil) (fun R H' hR => ?_)))
       obtain ⟨rfl, rfl⟩ := hR
       refine oM rfl (oV (v_extract rfl rfl) (oV (v_extract rfl rfl) (oT (t_alloc _ ze31 fun b54 => oT (t_storeC (y' := (y53.1 : Tag)) ty31 rfl rfl (fun _ _ h => h) .here rfl ?_)))))
       refine rl_upd (upd_imm 12 .here rfl) (oA rfl (rnf (w_seq (wsr ?_))))
       refine oM rfl (oV (v_not rfl) (oM rfl (rl_j (jb 94) je .nil h 4 rfl (fun q55 g55 h => ?_) (fun J56 h hJ56 => ?_))))
       ·
        refine oM rfl (rl_j (jb 109) je .nil h 14 rfl (fun q58 g58 h => ?_) (fun J59 h hJ59 => ?_))
        ·
         refine rnf (w_condM h rfl (fun _ h => ?_) (fun _ h => ?_))
         ·
          refine wsr (oA rfl (rnf (w_ret (ret_nxt ?_))))
          refine ret_block (ret_nxt (rL12 _ (ret_block (ret_nxt ?_))))
          refine ret_post (.tmp rfl .nil) (.cons .here .nil) ?_
          obtain rfl := Option.some.inj h
          exact ⟨rfl, rfl⟩
         ·
          refine wkf (w_region (oV (v_loadI ty31 rfl) (oT (t_storeC (y' := (y53.1 : Tag)) ty31 rfl rfl (fun _ _ h => h) (.there .here) rfl (rl_nil ?_)))))
          exact fin_block (hJ42 _ () h _ (join_imp 27 rfl rfl (mod_cons (j := 8) rfl (fun _ _ h => h) mod_nil) (.cons .here (.cons .here .nil))))
        ·
         refine rl_condM (j := 95) h rfl (fun g60 h => ?_) (fun g60 h => ?_)
         ·
          refine oP 95 rfl rfl g60 (oP 95 rfl rfl g60 (oP 95 rfl rfl g60 (oP 95 rfl rfl g60 (op_passU rfl (dj := 99) rfl ?_))))
          refine op_passU rfl (dj := 99) rfl (oP 95 rfl rfl g60 (oP 95 rfl rfl g60 (op_passU rfl (dj := 103) rfl (op_passU rfl (dj := 103) rfl ?_))))
          exact op_passU rfl (dj := 103) rfl (op_passU rfl (dj := 103) rfl (oP 95 rfl rfl g60 (oV (v_pick_t rfl g60 rfl) (hJ59 _ () h _ (join_imp 14 rfl rfl (mod_cons (j := 109) rfl (fun _ _ h => h) mod_nil) (.cons .here (.cons .here .nil)))))))
         ·
          refine oK 95 rfl rfl rfl g60 (v_fi rfl GTyp.f0 fd87_0 rfl (z := y1.kind)) (oK 95 rfl rfl rfl g60 (v_loadI ty3 rfl) (oK 95 rfl rfl rfl g60 (v_eql rfl rfl) (oK 95 rfl rfl rfl g60 (v_move rfl) (rl_j (jb 102) je .nil h 3 rfl (fun q61 g61 h => ?_) (fun J62 h hJ62 => ?_)))))
          ·
           refine oK 95 rfl rfl rfl g60 (v_move rfl) (rl_j (jb 108) je .nil h 5 rfl (fun q64 g64 h => ?_) (fun J65 h hJ65 => ?_))
           ·
            exact oV (v_pick_f rfl g60 rfl) (hJ59 _ () h _ (join_imp 8 rfl rfl (mod_cons (j := 109) rfl (fun _ _ h => h) mod_nil) (.cons .here (.cons .here .nil))))
           ·
            refine rl_condM (j := 103) h rfl (fun g66 h => ?_) (fun g66 h => ?_)
            ·
             refine op_take rfl rfl (dj := 103) rfl g66 (t_loadC (R := isv (q11.2.2.1)) ty31 rfl (.there .here) (fun _ _ h => h) (oK 103 rfl rfl rfl g66 (v_loadI ty31 rfl) (cal_inv h fun y67 hy67 h => op_take rfl rfl (dj := 103) rfl g66 (t_call (tags_Less_w hy67) hT (.same rfl (.same rfl .nil)) .nil (fun R H' hR => ?_)))))
             obtain ⟨rfl, rfl⟩ := hR
             exact oK 103 rfl rfl rfl g66 (v_not rfl) (oK 95 rfl rfl rfl g60 (v_pick_t rfl g66 rfl) (hJ65 _ () h _ (join_imp 5 rfl rfl (mod_cons (j := 108) rfl (fun _ _ h => h) mod_nil) (.cons .here (.cons .here .nil)))))
            ·
             refine oP 103 rfl rfl g66 (oP 103 rfl rfl g66 (oP 103 rfl rfl g66 (oP 103 rfl rfl g66 (oK 95 rfl rfl rfl g60 (v_pick_f rfl g66 rfl) ?_))))
             exact hJ65 _ () h _ (join_imp 5 rfl rfl (mod_cons (j := 108) rfl (fun _ _ h => h) mod_nil) (.cons .here (.cons .here .nil)))
          ·
           refine rl_condM (j := 99) h rfl (fun g63 h => ?_) (fun g63 h => ?_)
           ·
            exact oK 99 rfl rfl rfl g63 (v_move rfl) (oK 99 rfl rfl rfl g63 (v_gtr rfl rfl) (oK 95 rfl rfl rfl g60 (v_pick_t rfl g63 rfl) (hJ62 _ () h _ (join_imp 3 rfl rfl (mod_cons (j := 102) rfl (fun _ _ h => h) mod_nil) (.cons .here (.cons .here .nil))))))
           ·
            exact oP 99 rfl rfl g63 (oP 99 rfl rfl g63 (oK 95 rfl rfl rfl g60 (v_pick_f rfl g63 rfl) (hJ62 _ () h _ (join_imp 3 rfl rfl (mod_cons (j := 102) rfl (fun _ _ h => h) mod_nil) (.cons .here (.cons .here .nil))))))
       ·
        refine rl_condM (j := 90) h rfl (fun g57 h => ?_) (fun g57 h => ?_)
        ·
         exact oP 90 rfl rfl g57 (oP 90 rfl rfl g57 (oP 90 rfl rfl g57 (oV (v_pick_t rfl g57 rfl) (hJ56 _ () h _ (join_imp 4 rfl rfl (mod_cons (j := 94) rfl (fun _ _ h => h) mod_nil) (.cons .here (.cons .here .nil)))))))
        ·
         exact oK 90 rfl rfl rfl g57 (v_fi rfl Raw.f0 fd112_0 rfl (z := y43.n)) (oK 90 rfl rfl rfl g57 (v_loadI ty3 rfl) (oK 90 rfl rfl rfl g57 (v_neq rfl rfl) (oV (v_pick_f rfl g57 rfl) (hJ56 _ () h _ (join_imp 4 rfl rfl (mod_cons (j := 94) rfl (fun _ _ h => h) mod_nil) (.cons .here (.cons .here .nil)))))))
    ·
     refine w_exit (exi_nxt (eL12 _ _ (exi_block (fin_nxt ?_))))
     refine wsr (oA rfl (rnf (w_ret (ret_post (.tmp rfl .nil) (.cons (.there .here) .nil) ?_))))
     obtain rfl := Option.some.inj h
     exact ⟨rfl, rfl⟩
  ·
   refine rl_condM (j := 33) h rfl (fun g5 h => ?_) (fun g5 h => ?_)
   ·
    refine oP 33 rfl rfl g5 (oP 33 rfl rfl g5 (oP 33 rfl rfl g5 (oP 33 rfl rfl g5 (op_passU rfl (dj := 37) rfl ?_))))
    exact op_passU rfl (dj := 37) rfl (op_passU rfl (dj := 37) rfl (oP 33 rfl rfl g5 (oV (v_pick_t rfl g5 rfl) (hJ4 _ () h _ (join_imp 9 rfl rfl (mod_cons (j := 42) rfl (fun _ _ h => h) mod_nil) (.cons .here .nil))))))
   ·
    refine oK 33 rfl rfl rfl g5 (v_fi rfl Val.f4 fd46_4 rfl (z := a_v.rule)) (oK 33 rfl rfl rfl g5 (v_loadI ty3 rfl) (oK 33 rfl rfl rfl g5 (v_neq rfl rfl) (oK 33 rfl rfl rfl g5 (v_move rfl) (rl_j (jb 41) je .nil h 4 rfl (fun q6 g6 h => ?_) (fun J7 h hJ7 => ?_)))))
    ·
     exact oV (v_pick_f rfl g5 rfl) (hJ4 _ () h _ (join_imp 6 rfl rfl (mod_cons (j := 42) rfl (fun _ _ h => h) mod_nil) (.cons .here .nil)))
    ·
     refine rl_condM (j := 37) h rfl (fun g8 h => ?_) (fun g8 h => ?_)
     ·
      exact oK 37 rfl rfl rfl g8 (v_fi rfl Val.f4 fd46_4 rfl (z := a_v.rule)) (oK 37 rfl rfl rfl g8 (v_loadI ty3 rfl) (oK 37 rfl rfl rfl g8 (v_neq rfl rfl) (oK 33 rfl rfl rfl g5 (v_pick_t rfl g8 rfl) (hJ7 _ () h _ (join_imp 4 rfl rfl (mod_cons (j := 41) rfl (fun _ _ h => h) mod_nil) (.cons .here .nil))))))
     ·
      exact oP 37 rfl rfl g8 (oP 37 rfl rfl g8 (oP 37 rfl rfl g8 (oK 33 rfl rfl rfl g5 (v_pick_f rfl g8 rfl) (hJ7 _ () h _ (join_imp 4 rfl rfl (mod_cons (j := 41) rfl (fun _ _ h => h) mod_nil) (.cons .here .nil))))))


theorem value_Absent_w : ∀ {a_v : Val} {r : Bool}, value_Absent a_v = some r → Ctr Tryz.prog 126 [isv (a_v)] [] (fun R H => R = oneOf [isv (r)] ∧ H = []) := by
 intro a_v r h
 unfold value_Absent at h
 refine spec_intro Tryz.func126 rfl (by decide +kernel) (by rfl) fun w0 S0 hT => ?_
 refine wsr (oT (t_boxIC (y := a_v) rfl (fun _ _ h => h) (oA rfl (rnf (wsr ?_)))))
 refine oV (v_fi rfl Val.f0 fd46_0 rfl (z := a_v.kind)) (oV (v_loadI ty3 rfl) (oV (v_eql rfl rfl) (oM rfl (rl_j (jb 9) je .nil h 3 rfl (fun q1 g1 h => ?_) (fun J2 h hJ2 => ?_)))))
 ·
  refine oA rfl (rnf (w_ret (ret_post (.tmp rfl .nil) .nil ?_)))
  obtain rfl := Option.some.inj h
  exact ⟨rfl, rfl⟩
 ·
  refine rl_condM (j := 6) h rfl (fun g3 h => ?_) (fun g3 h => ?_)
  ·
   refine oK 6 rfl rfl rfl g3 (v_loadI ty46 rfl) (cal_inv h fun y4 hy4 h => op_take rfl rfl (dj := 6) rfl g3 (t_call (value_plain_w hy4) hT (.same rfl (.same rfl .nil)) .nil (fun R H' hR => ?_)))
   obtain ⟨rfl, rfl⟩ := hR
   exact oV (v_pick_t rfl g3 rfl) (hJ2 _ () h _ (ji 3 9 rfl rfl rfl))
  ·
   exact oP 6 rfl rfl g3 (oP 6 rfl rfl g3 (oV (v_pick_f rfl g3 rfl) (hJ2 _ () h _ (ji 3 9 rfl rfl rfl))))


theorem bytes_Equal_w : ∀ {a_a : (List UInt8)} {a_b : (List UInt8)} {r : Bool}, bytes_Equal a_a a_b = some r → Ctr Tryz.prog 96 [isv (a_a), isv (a_b)] [] (fun R H => R = oneOf [isv (r)] ∧ H = []) := by
 intro a_a a_b r h
 unfold bytes_Equal at h
 refine spec_intro Tryz.func96 rfl (by decide +kernel) (by rfl) fun w0 S0 hT => ?_
 refine wsr (oA rfl (rnf (wsr (oM rfl ?_))))
 refine oV (v_bs (l := a_a) Tryz.underlying42 Tryz.underlying5 Tryz.underlying9 rfl (fun _ _ h => h)) (oM rfl (oV (v_bs (l := a_b) Tryz.underlying42 Tryz.underlying5 Tryz.underlying9 rfl (fun _ _ h => h)) (oV (v_eqA eq9 rfl rfl) (oA rfl ?_))))
 refine rnf (w_ret (ret_post (.tmp rfl .nil) .nil ?_))
 obtain rfl := Option.some.inj h
 exact ⟨rfl, rfl⟩


theorem value_sameRaw_w : ∀ {a_a : Raw} {a_b : Raw} {r : Bool}, value_sameRaw a_a a_b = some r → Ctr Tryz.prog 99 [isv (a_a), isv (a_b)] [] (fun R H => R = oneOf [isv (r)] ∧ H = []) := by
 intro a_a a_b r h
 unfold value_sameRaw at h
 refine spec_intro Tryz.func99 rfl (by decide +kernel) (by rfl) fun w0 S0 hT => ?_
 refine wsr (oT (t_boxIC (y := a_a) rfl (fun _ _ h => h) (oT (t_boxIC (y := a_b) rfl (fun _ _ h => h) (oA rfl (rnf ?_))))))
 refine wsr (oV (v_fi rfl Raw.f0 fd112_0 rfl (z := a_a.n)) (oV (v_loadI ty3 rfl) (oV (v_fi rfl Raw.f0 fd112_0 rfl (z := a_b.n)) (oV (v_loadI ty3 rfl) ?_))))
 refine oV (v_eql rfl rfl) (oM rfl (rl_j (jb 16) je .nil h 6 rfl (fun q1 g1 h => ?_) (fun J2 h hJ2 => ?_)))
 ·
  refine oA rfl (rnf (w_ret (ret_post (.tmp rfl .nil) .nil ?_)))
  obtain rfl := Option.some.inj h
  exact ⟨rfl, rfl⟩
 ·
  refine rl_condM (j := 10) h rfl (fun g3 h => ?_) (fun g3 h => ?_)
  ·
   refine oK 10 rfl rfl rfl g3 (v_fi rfl Raw.f1 fd112_1 rfl (z := a_a.b)) (oK 10 rfl rfl rfl g3 (v_loadI ty42 rfl) (oK 10 rfl rfl rfl g3 (v_fi rfl Raw.f1 fd112_1 rfl (z := a_b.b)) (oK 10 rfl rfl rfl g3 (v_loadI ty42 rfl) (cal_inv h fun y4 hy4 h => ?_))))
   refine op_take rfl rfl (dj := 10) rfl g3 (t_call (bytes_Equal_w hy4) hT (.same rfl (.same rfl .nil)) .nil (fun R H' hR => ?_))
   obtain ⟨rfl, rfl⟩ := hR
   exact oV (v_pick_t rfl g3 rfl) (hJ2 _ () h _ (ji 6 16 rfl rfl rfl))
  ·
   refine oP 10 rfl rfl g3 (oP 10 rfl rfl g3 (oP 10 rfl rfl g3 (oP 10 rfl rfl g3 (oP 10 rfl rfl g3 ?_))))
   exact oV (v_pick_f rfl g3 rfl) (hJ2 _ () h _ (ji 6 16 rfl rfl rfl))


theorem slices_EqualFunc_Lapi_Raw_Lapi_Raw_api_Raw_api_Raw_w : ∀ {a_s1 : (List Raw)} {a_s2 : (List Raw)} {r : Bool}, slices_EqualFunc_Lapi_Raw_Lapi_Raw_api_Raw_api_Raw a_s1 a_s2 = some r → Ctr Tryz.prog 98 [isv (a_s1), isv (a_s2), clov 99 []] [] (fun R H => R = oneOf [isv (r)] ∧ H = []) := by
 intro a_s1 a_s2 r h
 unfold slices_EqualFunc_Lapi_Raw_Lapi_Raw_api_Raw_api_Raw at h
 refine spec_intro Tryz.func98 rfl (by decide +kernel) (by rfl) fun w0 S0 hT => ?_
 refine wsr (oA rfl (rnf (w_seq (wsr ?_))))
 refine oM rfl (oV (v_ln (l := a_s1) rfl (fun _ _ h => h) sl44) (oM rfl (oV (v_ln (l := a_s2) rfl (fun _ _ h => h) sl44) (oV (v_neq rfl rfl) ?_))))
 refine rnf (w_condM h rfl (fun _ h => ?_) (fun _ h => ?_))
 ·
  refine wsr (oA rfl (rnf (w_ret (ret_nxt ?_))))
  refine ret_post (.tmp rfl .nil) .nil ?_
  obtain rfl := Option.some.inj h
  exact ⟨rfl, rfl⟩
 ·
  refine wkf (w_seq (wsr (oM rfl (oV (v_ln (l := a_s1) rfl (fun _ _ h => h) sl44) ?_))))
  refine oM rfl (rnf (w_block (w_lp (ι := Int) (γ := Unit) (fun q1 g1 => [(17, isv (q1))]) (fun q1 g1 => []) h () (mod_cons (j := 17) rfl (fun _ _ h => h) mod_nil) .nil (fun L2 q1 g1 Q15 h hL2 eL2 rL2 => wsr ?_))))
  refine oV (v_lss rfl rfl) (rnf (w_seq (w_condM h rfl (fun _ h => ?_) (fun _ h => ?_))))
  ·
   refine wkf (w_seq (w_block (wsr (oM rfl ?_))))
   refine cal_inv h fun y9 hy9 h => oV (v_ix (l := a_s1) rfl (fun _ _ h => h) rfl sl44 hy9) (oV (v_loadI ty112 rfl) (oT (t_alloc _ ze112 fun b10 => oA rfl ?_)))
   refine oT (t_storeC (y' := (y9 : Raw)) ty112 rfl rfl (fun _ _ h => h) .here rfl (rl_upd (upd_imm 8 .here rfl) (rnf (wsr (oM rfl ?_)))))
   refine oM rfl (cal_inv h fun y11 hy11 h => oV (v_ix (l := a_s2) rfl (fun _ _ h => h) rfl sl44 hy11) (oV (v_loadI ty112 rfl) (oT (t_alloc _ ze112 fun b12 => ?_))))
   refine oT (t_storeC (y' := (y11 : Raw)) ty112 rfl rfl (fun _ _ h => h) .here rfl (rl_upd (upd_imm 9 .here rfl) (rnf (wsr (oM rfl ?_)))))
   refine oV (v_loadI ty112 rfl) (oV (v_loadI ty112 rfl) (cal_inv h fun y13 hy13 h => oT (t_callC rfl (.same rfl (.same rfl .nil)) (value_sameRaw_w hy13) hT .nil (fun R H' hR => ?_))))
   obtain ⟨rfl, rfl⟩ := hR
   refine oV (v_not rfl) (rnf (w_condM h rfl (fun _ h => ?_) (fun _ h => ?_)))
   ·
    refine wsr (oA rfl (rnf (w_ret (ret_block ?_))))
    refine ret_nxt (rL2 _ (ret_block (ret_nxt (ret_post (.tmp rfl .nil) .nil ?_))))
    obtain rfl := Option.some.inj h
    exact ⟨rfl, rfl⟩
   ·
    refine w_skip (fin_block (fin_nxt (w_region (ck_inv h fun q14 h => ?_))))
    exact oV (v_add rfl rfl q14) (oM rfl (rl_nil (hL2 _ () h _ (ji 21 17 rfl rfl rfl))))
  ·
   refine w_exit (exi_nxt (eL2 _ _ (exi_block (fin_nxt ?_))))
   refine wsr (oA rfl (rnf (w_ret (ret_post (.tmp rfl .nil) .nil ?_))))
   obtain rfl := Option.some.inj h
   exact ⟨rfl, rfl⟩


def value_Same_C (f' : Val → Val → Option (Bool)) : Prop :=
 ∀ {a_a : Val} {a_b : Val} {r : Bool}, f' a_a a_b = some r → Ctr Tryz.prog 67 [isv (a_a), isv (a_b)] [] (fun R H => R = oneOf [isv (r)] ∧ H = [])
def slices_EqualFunc_Lapi_Value_Lapi_Value_api_Value_api_Value_C (f' : (List Val) → (List Val) → Option (Bool)) : Prop :=
 ∀ {a_s1 : (List Val)} {a_s2 : (List Val)} {r : Bool}, f' a_s1 a_s2 = some r → Ctr Tryz.prog 97 [isv (a_s1), isv (a_s2), clov 67 []] [] (fun R H => R = oneOf [isv (r)] ∧ H = [])
theorem value_Same_w0 {value_Same' : Val → Val → Option (Bool)} {slices_EqualFunc_Lapi_Value_Lapi_Value_api_Value_api_Value' : (List Val) → (List Val) → Option (Bool)} (h_value_Same : value_Same_C value_Same') (h_slices_EqualFunc_Lapi_Value_Lapi_Value_api_Value_api_Value : slices_EqualFunc_Lapi_Value_Lapi_Value_api_Value_api_Value_C slices_EqualFunc_Lapi_Value_Lapi_Value_api_Value_api_Value') : ∀ {a_a : Val} {a_b : Val} {r : Bool}, value_Same_F value_Same' slices_EqualFunc_Lapi_Value_Lapi_Value_api_Value_api_Value' a_a a_b = some r → Ctr Tryz.prog 67 [isv (a_a), isv (a_b)] [] (fun R H => R = oneOf [isv (r)] ∧ H = []) := by
 intro a_a a_b r h
 unfold value_Same_F at h
 refine spec_intro Tryz.func67 rfl (by decide +kernel) (by rfl) fun w0 S0 hT => ?_
 refine wsr (oT (t_boxIC (y := a_a) rfl (fun _ _ h => h) (oT (t_boxIC (y := a_b) rfl (fun _ _ h => h) (oA rfl (rnf ?_))))))
 refine wsr (oV (v_fi rfl Val.f0 fd46_0 rfl (z := a_a.kind)) (oV (v_loadI ty3 rfl) (oV (v_fi rfl Val.f0 fd46_0 rfl (z := a_b.kind)) (oV (v_loadI ty3 rfl) ?_))))
 refine oV (v_eql rfl rfl) (oM rfl (rl_j (jb 16) je .nil h 6 rfl (fun q1 g1 h => ?_) (fun J2 h hJ2 => ?_)))
 ·
  refine oM rfl (rl_j (jb 23) je .nil h 6 rfl (fun q4 g4 h => ?_) (fun J5 h hJ5 => ?_))
  ·
   refine oM rfl (rl_j (jb 30) je .nil h 6 rfl (fun q8 g8 h => ?_) (fun J9 h hJ9 => ?_))
   ·
    refine oM rfl (rl_j (jb 37) je .nil h 6 rfl (fun q12 g12 h => ?_) (fun J13 h hJ13 => ?_))
    ·
     refine oM rfl (rl_j (jb 44) je .nil h 6 rfl (fun q15 g15 h => ?_) (fun J16 h hJ16 => ?_))
     ·
      refine oA rfl (rnf (w_ret (ret_post (.tmp rfl .nil) .nil ?_)))
      obtain rfl := Option.some.inj h
      exact ⟨rfl, rfl⟩
     ·
      refine rl_condM (j := 38) h rfl (fun g17 h => ?_) (fun g17 h => ?_)
      ·
       refine oK 38 rfl rfl rfl g17 (v_fi rfl Val.f5 fd46_5 rfl (z := a_a.more)) (oK 38 rfl rfl rfl g17 (v_loadI ty44 rfl) (oK 38 rfl rfl rfl g17 (v_fi rfl Val.f5 fd46_5 rfl (z := a_b.more)) (oK 38 rfl rfl rfl g17 (v_loadI ty44 rfl) (cal_inv h fun y18 hy18 h => ?_))))
       refine op_take rfl rfl (dj := 38) rfl g17 (t_call (slices_EqualFunc_Lapi_Raw_Lapi_Raw_api_Raw_api_Raw_w hy18) hT (.same rfl (.same rfl (.same rfl .nil))) .nil (fun R H' hR => ?_))
       obtain ⟨rfl, rfl⟩ := hR
       exact oV (v_pick_t rfl g17 rfl) (hJ16 _ () h _ (ji 6 44 rfl rfl rfl))
      ·
       refine oP 38 rfl rfl g17 (oP 38 rfl rfl g17 (oP 38 rfl rfl g17 (oP 38 rfl rfl g17 (oP 38 rfl rfl g17 ?_))))
       exact oV (v_pick_f rfl g17 rfl) (hJ16 _ () h _ (ji 6 44 rfl rfl rfl))
    ·
     refine rl_condM (j := 31) h rfl (fun g14 h => ?_) (fun g14 h => ?_)
     ·
      refine oK 31 rfl rfl rfl g14 (v_fi rfl Val.f4 fd46_4 rfl (z := a_a.rule)) (oK 31 rfl rfl rfl g14 (v_loadI ty3 rfl) (oK 31 rfl rfl rfl g14 (v_fi rfl Val.f4 fd46_4 rfl (z := a_b.rule)) (oK 31 rfl rfl rfl g14 (v_loadI ty3 rfl) (oK 31 rfl rfl rfl g14 (v_eql rfl rfl) ?_))))
      exact oV (v_pick_t rfl g14 rfl) (hJ13 _ () h _ (ji 6 37 rfl rfl rfl))
     ·
      refine oP 31 rfl rfl g14 (oP 31 rfl rfl g14 (oP 31 rfl rfl g14 (oP 31 rfl rfl g14 (oP 31 rfl rfl g14 ?_))))
      exact oV (v_pick_f rfl g14 rfl) (hJ13 _ () h _ (ji 6 37 rfl rfl rfl))
   ·
    refine rl_condM (j := 24) h rfl (fun g10 h => ?_) (fun g10 h => ?_)
    ·
     refine oK 24 rfl rfl rfl g10 (v_fi rfl Val.f3 fd46_3 rfl (z := a_a.l)) (oK 24 rfl rfl rfl g10 (v_loadI ty43 rfl) (oK 24 rfl rfl rfl g10 (v_fi rfl Val.f3 fd46_3 rfl (z := a_b.l)) (oK 24 rfl rfl rfl g10 (v_loadI ty43 rfl) (cal_inv h fun y11 hy11 h => ?_))))
     refine op_take rfl rfl (dj := 24) rfl g10 (t_call (h_slices_EqualFunc_Lapi_Value_Lapi_Value_api_Value_api_Value hy11) hT (.same rfl (.same rfl (.same rfl .nil))) .nil (fun R H' hR => ?_))
     obtain ⟨rfl, rfl⟩ := hR
     exact oV (v_pick_t rfl g10 rfl) (hJ9 _ () h _ (ji 6 30 rfl rfl rfl))
    ·
     refine oP 24 rfl rfl g10 (oP 24 rfl rfl g10 (oP 24 rfl rfl g10 (oP 24 rfl rfl g10 (oP 24 rfl rfl g10 ?_))))
     exact oV (v_pick_f rfl g10 rfl) (hJ9 _ () h _ (ji 6 30 rfl rfl rfl))
  ·
   refine rl_condM (j := 17) h rfl (fun g6 h => ?_) (fun g6 h => ?_)
   ·
    refine oK 17 rfl rfl rfl g6 (v_fi rfl Val.f2 fd46_2 rfl (z := a_a.b)) (oK 17 rfl rfl rfl g6 (v_loadI ty42 rfl) (oK 17 rfl rfl rfl g6 (v_fi rfl Val.f2 fd46_2 rfl (z := a_b.b)) (oK 17 rfl rfl rfl g6 (v_loadI ty42 rfl) (cal_inv h fun y7 hy7 h => ?_))))
    refine op_take rfl rfl (dj := 17) rfl g6 (t_call (bytes_Equal_w hy7) hT (.same rfl (.same rfl .nil)) .nil (fun R H' hR => ?_))
    obtain ⟨rfl, rfl⟩ := hR
    exact oV (v_pick_t rfl g6 rfl) (hJ5 _ () h _ (ji 6 23 rfl rfl rfl))
   ·
    refine oP 17 rfl rfl g6 (oP 17 rfl rfl g6 (oP 17 rfl rfl g6 (oP 17 rfl rfl g6 (oP 17 rfl rfl g6 ?_))))
    exact oV (v_pick_f rfl g6 rfl) (hJ5 _ () h _ (ji 6 23 rfl rfl rfl))
 ·
  refine rl_condM (j := 10) h rfl (fun g3 h => ?_) (fun g3 h => ?_)
  ·
   refine oK 10 rfl rfl rfl g3 (v_fi rfl Val.f1 fd46_1 rfl (z := a_a.n)) (oK 10 rfl rfl rfl g3 (v_loadI ty2 rfl) (oK 10 rfl rfl rfl g3 (v_fi rfl Val.f1 fd46_1 rfl (z := a_b.n)) (oK 10 rfl rfl rfl g3 (v_loadI ty2 rfl) (oK 10 rfl rfl rfl g3 (v_eql rfl rfl) ?_))))
   exact oV (v_pick_t rfl g3 rfl) (hJ2 _ () h _ (ji 6 16 rfl rfl rfl))
  ·
   refine oP 10 rfl rfl g3 (oP 10 rfl rfl g3 (oP 10 rfl rfl g3 (oP 10 rfl rfl g3 (oP 10 rfl rfl g3 ?_))))
   exact oV (v_pick_f rfl g3 rfl) (hJ2 _ () h _ (ji 6 16 rfl rfl rfl))

theorem slices_EqualFunc_Lapi_Value_Lapi_Value_api_Value_api_Value_w0 {value_Same' : Val → Val → Option (Bool)} {slices_EqualFunc_Lapi_Value_Lapi_Value_api_Value_api_Value' : (List Val) → (List Val) → Option (Bool)} (h_value_Same : value_Same_C value_Same') (h_slices_EqualFunc_Lapi_Value_Lapi_Value_api_Value_api_Value : slices_EqualFunc_Lapi_Value_Lapi_Value_api_Value_api_Value_C slices_EqualFunc_Lapi_Value_Lapi_Value_api_Value_api_Value') : ∀ {a_s1 : (List Val)} {a_s2 : (List Val)} {r : Bool}, slices_EqualFunc_Lapi_Value_Lapi_Value_api_Value_api_Value_F value_Same' slices_EqualFunc_Lapi_Value_Lapi_Value_api_Value_api_Value' a_s1 a_s2 = some r → Ctr Tryz.prog 97 [isv (a_s1), isv (a_s2), clov 67 []] [] (fun R H => R = oneOf [isv (r)] ∧ H = []) := by
 intro a_s1 a_s2 r h
 unfold slices_EqualFunc_Lapi_Value_Lapi_Value_api_Value_api_Value_F at h
 refine spec_intro Tryz.func97 rfl (by decide +kernel) (by rfl) fun w0 S0 hT => ?_
 refine wsr (oA rfl (rnf (w_seq (wsr ?_))))
 refine oM rfl (oV (v_ln (l := a_s1) rfl (fun _ _ h => h) sl43) (oM rfl (oV (v_ln (l := a_s2) rfl (fun _ _ h => h) sl43) (oV (v_neq rfl rfl) ?_))))
 refine rnf (w_condM h rfl (fun _ h => ?_) (fun _ h => ?_))
 ·
  refine wsr (oA rfl (rnf (w_ret (ret_nxt ?_))))
  refine ret_post (.tmp rfl .nil) .nil ?_
  obtain rfl := Option.some.inj h
  exact ⟨rfl, rfl⟩
 ·
  refine wkf (w_seq (wsr (oM rfl (oV (v_ln (l := a_s1) rfl (fun _ _ h => h) sl43) ?_))))
  refine oM rfl (rnf (w_block (w_lp (ι := Int) (γ := Unit) (fun q1 g1 => [(17, isv (q1))]) (fun q1 g1 => []) h () (mod_cons (j := 17) rfl (fun _ _ h => h) mod_nil) .nil (fun L2 q1 g1 Q15 h hL2 eL2 rL2 => wsr ?_))))
  refine oV (v_lss rfl rfl) (rnf (w_seq (w_condM h rfl (fun _ h => ?_) (fun _ h => ?_))))
  ·
   refine wkf (w_seq (w_block (wsr (oM rfl ?_))))
   refine cal_inv h fun y9 hy9 h => oV (v_ix (l := a_s1) rfl (fun _ _ h => h) rfl sl43 hy9) (oV (v_loadI ty46 rfl) (oT (t_alloc _ ze46 fun b10 => oA rfl ?_)))
   refine oT (t_storeC (y' := (y9 : Val)) ty46 rfl rfl (fun _ _ h => h) .here rfl (rl_upd (upd_imm 8 .here rfl) (rnf (wsr (oM rfl ?_)))))
   refine oM rfl (cal_inv h fun y11 hy11 h => oV (v_ix (l := a_s2) rfl (fun _ _ h => h) rfl sl43 hy11) (oV (v_loadI ty46 rfl) (oT (t_alloc _ ze46 fun b12 => ?_))))
   refine oT (t_storeC (y' := (y11 : Val)) ty46 rfl rfl (fun _ _ h => h) .here rfl (rl_upd (upd_imm 9 .here rfl) (rnf (wsr (oM rfl ?_)))))
   refine oV (v_loadI ty46 rfl) (oV (v_loadI ty46 rfl) (cal_inv h fun y13 hy13 h => oT (t_callC rfl (.same rfl (.same rfl .nil)) (h_value_Same hy13) hT .nil (fun R H' hR => ?_))))
   obtain ⟨rfl, rfl⟩ := hR
   refine oV (v_not rfl) (rnf (w_condM h rfl (fun _ h => ?_) (fun _ h => ?_)))
   ·
    refine wsr (oA rfl (rnf (w_ret (ret_block ?_))))
    refine ret_nxt (rL2 _ (ret_block (ret_nxt (ret_post (.tmp rfl .nil) .nil ?_))))
    obtain rfl := Option.some.inj h
    exact ⟨rfl, rfl⟩
   ·
    refine w_skip (fin_block (fin_nxt (w_region (ck_inv h fun q14 h => ?_))))
    exact oV (v_add rfl rfl q14) (oM rfl (rl_nil (hL2 _ () h _ (ji 21 17 rfl rfl rfl))))
  ·
   refine w_exit (exi_nxt (eL2 _ _ (exi_block (fin_nxt ?_))))
   refine wsr (oA rfl (rnf (w_ret (ret_post (.tmp rfl .nil) .nil ?_))))
   obtain rfl := Option.some.inj h
   exact ⟨rfl, rfl⟩

theorem value_Same_grp_w : ∀ n, value_Same_C (value_Same n) ∧ slices_EqualFunc_Lapi_Value_Lapi_Value_api_Value_api_Value_C (slices_EqualFunc_Lapi_Value_Lapi_Value_api_Value_api_Value n)
 | 0 => ⟨fun h => (by cases h), fun h => (by cases h)⟩
 | n + 1 => by
  obtain ⟨h0, h1⟩ := value_Same_grp_w n
  exact ⟨value_Same_w0 h0 h1, slices_EqualFunc_Lapi_Value_Lapi_Value_api_Value_api_Value_w0 h0 h1⟩
theorem value_Same_w (n : Nat) : value_Same_C (value_Same n) := (value_Same_grp_w n).1
theorem value_checker_groups_w : ∀ {a_c : GChk} {a_i : Int} {a_v : Val} {b_a_c : Nat} {r : Bool × GChk}, value_checker_groups a_c a_i a_v = some r → Ctr Tryz.prog 128 [ptrv b_a_c (Fld.id GChk), isv (a_i), isv (a_v)] [boxE b_a_c (a_c : GChk)] (fun R H => R = oneOf [isv (r.1)] ∧ H = [boxE b_a_c (r.2)]) := by
 intro a_c a_i a_v b_a_c r h
 unfold value_checker_groups at h
 refine spec_intro Tryz.func128 rfl (by decide +kernel) (by rfl) fun w0 S0 hT => ?_
 refine wsr (oT (t_boxIC (y := a_v) rfl (fun _ _ h => h) (oA rfl (rnf (wsr ?_)))))
 refine oM rfl (oV (v_nilCheck rfl) (oV (v_fa rfl GChk.f0 fd103_0) (oV (v_fa rfl GTbd.f0 fd101_0) (oV (v_fa rfl GTab.f3 fd26_3) ?_))))
 refine oT (t_loadC (R := isv (a_c.tabled.t.types)) ty24 rfl .here (fun _ _ h => h) (oM rfl (cal_inv h fun y1 hy1 h => oV (v_ix (l := a_c.tabled.t.types) rfl (fun _ _ h => h) rfl sl24 hy1) (oV (v_loadI ty87 rfl) ?_))))
 refine oT (t_alloc _ ze87 fun b2 => oT (t_storeC (y' := (y1 : GTyp)) ty87 rfl rfl (fun _ _ h => h) .here rfl (rl_upd (upd_imm 7 .here rfl) (rnf (w_seq ?_)))))
 refine wsr (oM rfl (oV (v_nilCheck rfl) (oV (v_fa rfl GChk.f0 fd103_0) (oV (v_fa rfl GTbd.f0 fd101_0) ?_))))
 refine oT (t_loadC (R := isv (a_c.tabled.t)) ty26 rfl .here (fun _ _ h => h) (oM rfl (cal_inv h fun y3 hy3 h => oT (t_call (order_Slots_w hy3) hT (.same rfl (.same rfl .nil)) .nil (fun R H' hR => ?_)))))
 obtain ⟨rfl, rfl⟩ := hR
 refine oV (v_ln (l := y3) rfl (fun _ _ h => h) sl36) (oM rfl (rnf (w_block (w_lp (ι := Int) (γ := Unit) (fun q4 g4 => [(32, isv (q4))]) (fun q4 g4 => []) h () (mod_cons (j := 32) rfl (fun _ _ h => h) mod_nil) .nil (fun L5 q4 g4 Q90 h hL5 eL5 rL5 => ?_)))))
 refine wsr (oV (v_lss rfl rfl) (rnf (w_seq (w_condM h rfl (fun _ h => ?_) (fun _ h => ?_)))))
 ·
  refine wkf (w_seq (w_J (ι := Unit) (γ := Unit) (fun q48 g48 => []) (fun q48 g48 => []) .nil h (fun q48 g48 h => ?_) (fun J49 h hJ49 => ?_)))
  ·
   refine w_region (ck_inv h fun q89 h => oV (v_add rfl rfl q89) (oM rfl (rl_nil ?_)))
   exact hL5 _ () h _ (join_imp 4 rfl rfl (mod_cons (j := 32) rfl (fun _ _ h => h) mod_nil) (.cons .here .nil))
  ·
   refine w_block (wsr (cal_inv h fun y50 hy50 h => oV (v_ix (l := y3) rfl (fun _ _ h => h) rfl sl36 hy50) (oV (v_loadI ty23 rfl) ?_)))
   refine oA rfl (rnf (w_seq (w_seq (w_regionD (.v 0 (.v 1 (.v 2 (.v 3 (.v 4 (.v 5 (.v 6 (.v 7 (.v 8 .nil))))))))) moOrd (by kernel_rfl) ?_))))
   refine rd_v rfl (v_fi rfl GTyp.f4 fd87_4 rfl (z := y1.fields)) (rd_v rfl (v_loadI ty85 rfl) (rvm rfl rfl (cal_inv h fun y51 hy51 h => rd_v rfl (v_ix (l := y50) rfl (fun _ _ h => h) rfl sl23 hy51) ?_)))
   refine rd_v rfl (v_loadI ty3 rfl) (cal_inv h fun y52 hy52 h => rd_v rfl (v_ix (l := y1.fields) rfl (fun _ _ h => h) rfl sl85 hy52) (rd_v rfl (v_fi rfl GFld.f5 fd92_5 rfl (z := y52.group)) (rd_v rfl (v_loadI ty3 rfl) ?_)))
   refine rd_v rfl (v_eql rfl rfl) (rd_nil (fin_nxt (w_condM h rfl (fun _ h => ?_) (fun _ h => ?_))))
   ·
    exact w_exit (exi_nxt (exi_block (hJ49 _ () h _ (join_imp 12 rfl rfl mod_nil (.cons .here .nil)))))
   ·
    refine wkf (wsr (oA rfl (oA rfl (rnf ?_))))
    refine w_seq (wsr (oM rfl (oV (v_ln (l := y50) rfl (fun _ _ h => h) sl23) (oM rfl ?_))))
    refine rnf (w_block (w_lp (ι := Bool × Bool × Int) (γ := Unit) (fun q53 g53 => [(10, isv (q53.1)), (11, isv (q53.2.1)), (47, isv (q53.2.2))]) (fun q53 g53 => []) h () (mod_cons (j := 10) rfl (fun _ _ h => h) (mod_cons (j := 11) rfl (fun _ _ h => h) (mod_cons (j := 47) rfl (fun _ _ h => h) mod_nil))) .nil (fun L54 q53 g53 Q88 h hL54 eL54 rL54 => wsr (oV (v_lss rfl rfl) ?_))))
    refine rnf (w_seq (w_condM h rfl (fun _ h => ?_) (fun _ h => ?_)))
    ·
     refine wkf (w_seq (w_block (wsr (cal_inv h fun y67 hy67 h => ?_))))
     refine oV (v_ix (l := y50) rfl (fun _ _ h => h) rfl sl23 hy67) (oV (v_loadI ty3 rfl) (oA rfl (rnf (wsr ?_))))
     refine oV (v_fi rfl Val.f3 fd46_3 rfl (z := a_v.l)) (oV (v_loadI ty43 rfl) (oM rfl (cal_inv h fun y68 hy68 h => oV (v_ix (l := a_v.l) rfl (fun _ _ h => h) rfl sl43 hy68) ?_)))
     refine oV (v_loadI ty46 rfl) (cal_inv h fun y69 hy69 h => oT (t_call (value_Absent_w hy69) hT (.same rfl .nil) .nil (fun R H' hR => ?_)))
     obtain ⟨rfl, rfl⟩ := hR
     refine oV (v_not rfl) (oA rfl (rnf (wsr (oM rfl ?_))))
     refine oM rfl (rl_j (jb 61) je .nil h 2 rfl (fun q70 g70 h => ?_) (fun J71 h hJ71 => ?_))
     ·
      refine oA rfl (rnf (w_region (oM rfl (oM rfl ?_))))
      refine rl_j (jb 84) je .nil h 21 rfl (fun q73 g73 h => ?_) (fun J74 h hJ74 => ?_)
      ·
       refine oA rfl (rl_nil (fin_block (fin_nxt (w_region ?_))))
       exact ck_inv h fun q84 h => oV (v_add rfl rfl q84) (oM rfl (rl_nil (hL54 _ () h _ (join_imp 25 rfl rfl (mod_cons (j := 10) rfl (fun _ _ h => h) (mod_cons (j := 11) rfl (fun _ _ h => h) (mod_cons (j := 47) rfl (fun _ _ h => h) mod_nil))) (.cons .here .nil)))))
      ·
       refine rl_condM (j := 63) h rfl (fun g75 h => ?_) (fun g75 h => ?_)
       ·
        refine oP 63 rfl rfl g75 (oP 63 rfl rfl g75 (oP 63 rfl rfl g75 (op_passU rfl (dj := 66) rfl (op_passU rfl (dj := 66) rfl ?_))))
        refine op_passU rfl (dj := 66) rfl (op_passU rfl (dj := 66) rfl (op_passU rfl (dj := 66) rfl (op_passU rfl (dj := 66) rfl (op_passU rfl (dj := 66) rfl ?_))))
        refine oP 63 rfl rfl g75 (oP 63 rfl rfl g75 (op_passU rfl (dj := 75) rfl (op_passU rfl (dj := 75) rfl (op_passU rfl (dj := 75) rfl ?_))))
        refine op_passU rfl (dj := 75) rfl (op_passU rfl (dj := 75) rfl (op_passU rfl (dj := 75) rfl (op_passU rfl (dj := 75) rfl (oP 63 rfl rfl g75 ?_))))
        exact oV (v_pick_t rfl g75 rfl) (hJ74 _ () h _ (join_imp 21 rfl rfl (mod_cons (j := 84) rfl (fun _ _ h => h) mod_nil) (.cons .here .nil)))
       ·
        refine oK 63 rfl rfl rfl g75 (v_move rfl) (oK 63 rfl rfl rfl g75 (v_not rfl) (oK 63 rfl rfl rfl g75 (v_move rfl) (rl_j (jb 74) je .nil h 8 rfl (fun q76 g76 h => ?_) (fun J77 h hJ77 => ?_))))
        ·
         refine oK 63 rfl rfl rfl g75 (v_move rfl) (rl_j (jb 83) je .nil h 8 rfl (fun q80 g80 h => ?_) (fun J81 h hJ81 => ?_))
         ·
          exact oV (v_pick_f rfl g75 rfl) (hJ74 _ () h _ (join_imp 7 rfl rfl (mod_cons (j := 84) rfl (fun _ _ h => h) mod_nil) (.cons .here .nil)))
         ·
          refine rl_condM (j := 75) h rfl (fun g82 h => ?_) (fun g82 h => ?_)
          ·
           refine oK 75 rfl rfl rfl g82 (v_fi rfl GTyp.f4 fd87_4 rfl (z := y1.fields)) (oK 75 rfl rfl rfl g82 (v_loadI ty85 rfl) (oK 75 rfl rfl rfl g82 (v_move rfl) (cal_inv h fun y83 hy83 h => oK 75 rfl rfl rfl g82 (v_ix (l := y1.fields) rfl (fun _ _ h => h) rfl sl85 hy83) ?_)))
           exact oK 75 rfl rfl rfl g82 (v_fi rfl GFld.f3 fd92_3 rfl (z := y83.has)) (oK 75 rfl rfl rfl g82 (v_loadI ty4 rfl) (oK 75 rfl rfl rfl g82 (v_not rfl) (oK 63 rfl rfl rfl g75 (v_pick_t rfl g82 rfl) (hJ81 _ () h _ (join_imp 8 rfl rfl (mod_cons (j := 83) rfl (fun _ _ h => h) mod_nil) (.cons .here .nil))))))
          ·
           refine oP 75 rfl rfl g82 (oP 75 rfl rfl g82 (oP 75 rfl rfl g82 (oP 75 rfl rfl g82 (oP 75 rfl rfl g82 ?_))))
           exact oP 75 rfl rfl g82 (oP 75 rfl rfl g82 (oK 63 rfl rfl rfl g75 (v_pick_f rfl g82 rfl) (hJ81 _ () h _ (join_imp 8 rfl rfl (mod_cons (j := 83) rfl (fun _ _ h => h) mod_nil) (.cons .here .nil)))))
        ·
         refine rl_condM (j := 66) h rfl (fun g78 h => ?_) (fun g78 h => ?_)
         ·
          refine oK 66 rfl rfl rfl g78 (v_fi rfl GTyp.f4 fd87_4 rfl (z := y1.fields)) (oK 66 rfl rfl rfl g78 (v_loadI ty85 rfl) (oK 66 rfl rfl rfl g78 (v_move rfl) (cal_inv h fun y79 hy79 h => oK 66 rfl rfl rfl g78 (v_ix (l := y1.fields) rfl (fun _ _ h => h) rfl sl85 hy79) ?_)))
          exact oK 66 rfl rfl rfl g78 (v_fi rfl GFld.f2 fd92_2 rfl (z := y79.optional)) (oK 66 rfl rfl rfl g78 (v_loadI ty4 rfl) (oK 66 rfl rfl rfl g78 (v_not rfl) (oK 63 rfl rfl rfl g75 (v_pick_t rfl g78 rfl) (hJ77 _ () h _ (join_imp 8 rfl rfl (mod_cons (j := 74) rfl (fun _ _ h => h) mod_nil) (.cons .here .nil))))))
         ·
          refine oP 66 rfl rfl g78 (oP 66 rfl rfl g78 (oP 66 rfl rfl g78 (oP 66 rfl rfl g78 (oP 66 rfl rfl g78 ?_))))
          exact oP 66 rfl rfl g78 (oP 66 rfl rfl g78 (oK 63 rfl rfl rfl g75 (v_pick_f rfl g78 rfl) (hJ77 _ () h _ (join_imp 8 rfl rfl (mod_cons (j := 74) rfl (fun _ _ h => h) mod_nil) (.cons .here .nil)))))
     ·
      refine rl_condM (j := 59) h rfl (fun g72 h => ?_) (fun g72 h => ?_)
      ·
       exact oP 59 rfl rfl g72 (oV (v_pick_t rfl g72 rfl) (hJ71 _ () h _ (join_imp 2 rfl rfl (mod_cons (j := 61) rfl (fun _ _ h => h) mod_nil) (.cons .here .nil))))
      ·
       exact oK 59 rfl rfl rfl g72 (v_move rfl) (oV (v_pick_f rfl g72 rfl) (hJ71 _ () h _ (join_imp 2 rfl rfl (mod_cons (j := 61) rfl (fun _ _ h => h) mod_nil) (.cons .here .nil))))
    ·
     refine w_exit (exi_nxt (eL54 _ _ (exi_block (fin_nxt ?_))))
     refine wsr (oM rfl (oM rfl (rl_j (jb 89) je .nil h 2 rfl (fun q85 g85 h => ?_) (fun J86 h hJ86 => ?_))))
     ·
      refine rnf (w_condM h rfl (fun _ h => ?_) (fun _ h => ?_))
      ·
       refine wsr (oA rfl (rnf (w_ret (ret_block ?_))))
       refine ret_nxt (rL5 _ (ret_block (ret_nxt (ret_post (.tmp rfl .nil) (.cons .here .nil) ?_))))
       obtain rfl := Option.some.inj h
       exact ⟨rfl, rfl⟩
      ·
       exact w_skip (fin_block (hJ49 _ () h _ (join_imp 24 rfl rfl mod_nil (.cons .here .nil))))
     ·
      refine rl_condM (j := 87) h rfl (fun g87 h => ?_) (fun g87 h => ?_)
      ·
       exact oK 87 rfl rfl rfl g87 (v_move rfl) (oV (v_pick_t rfl g87 rfl) (hJ86 _ () h _ (join_imp 2 rfl rfl (mod_cons (j := 89) rfl (fun _ _ h => h) mod_nil) (.cons .here .nil))))
      ·
       exact oP 87 rfl rfl g87 (oV (v_pick_f rfl g87 rfl) (hJ86 _ () h _ (join_imp 2 rfl rfl (mod_cons (j := 89) rfl (fun _ _ h => h) mod_nil) (.cons .here .nil))))
 ·
  refine w_exit (exi_nxt (eL5 _ _ (exi_block (fin_nxt ?_))))
  refine wsr (oA rfl (rnf (w_ret (ret_post (.tmp rfl .nil) (.cons .here .nil) ?_))))
  obtain rfl := Option.some.inj h
  exact ⟨rfl, rfl⟩

end Go.Proofs.YtnnijoepfgnlfaaGreatDoor


namespace Go.Proofs.YtnnijoepfgnlfaaGreatDoor
open Go.Sy
set_option maxRecDepth 4000
def value_checker_list_c1_C (f' : Val → GChk → GTyp → Int → Option (Bool × GChk)) : Prop :=
 ∀ {a_w_ : Val} {a_a1 : GChk} {a_a2 : GTyp} {a_a3 : Int} {b_a_a1 : Nat} {r : Bool × GChk}, f' a_w_ a_a1 a_a2 a_a3 = some r → Ctr Tryz.prog 124 [isv (a_w_), immv (PtrB.mk b_a_a1), immv (a_a2), immv (a_a3)] [boxE b_a_a1 (a_a1 : GChk)] (fun R H => R = oneOf [isv (r.1)] ∧ H = [boxE b_a_a1 (r.2)])
def value_checker_fits_C (f' : GChk → Int → Val → Int → Option (Bool × GChk)) : Prop :=
 ∀ {a_c : GChk} {a_i : Int} {a_v : Val} {a_depth : Int} {b_a_c : Nat} {r : Bool × GChk}, f' a_c a_i a_v a_depth = some r → Ctr Tryz.prog 55 [ptrv b_a_c (Fld.id GChk), isv (a_i), isv (a_v), isv (a_depth)] [boxE b_a_c (a_c : GChk)] (fun R H => R = oneOf [isv (r.1)] ∧ H = [boxE b_a_c (r.2)])
def value_checker_list_C (f' : GChk → GTyp → Val → Int → Option (Bool × GChk)) : Prop :=
 ∀ {a_c : GChk} {a_x : GTyp} {a_v : Val} {a_depth : Int} {b_a_c : Nat} {r : Bool × GChk}, f' a_c a_x a_v a_depth = some r → Ctr Tryz.prog 87 [ptrv b_a_c (Fld.id GChk), isv (a_x), isv (a_v), isv (a_depth)] [boxE b_a_c (a_c : GChk)] (fun R H => R = oneOf [isv (r.1)] ∧ H = [boxE b_a_c (r.2)])
def slices_ContainsFunc_Lapi_Value_api_Value_C (f' : (List Val) → GChk → GTyp → Int → Option (Bool × GChk)) : Prop :=
 ∀ {a_s : (List Val)} {a_f_0 : GChk} {a_f_1 : GTyp} {a_f_2 : Int} {b_a_f_0 : Nat} {r : Bool × GChk}, f' a_s a_f_0 a_f_1 a_f_2 = some r → Ctr Tryz.prog 123 [isv (a_s), clov 124 [immv (PtrB.mk b_a_f_0), immv (a_f_1), immv (a_f_2)]] [boxE b_a_f_0 (a_f_0 : GChk)] (fun R H => R = oneOf [isv (r.1)] ∧ H = [boxE b_a_f_0 (r.2)])
def slices_IndexFunc_Lapi_Value_api_Value_C (f' : (List Val) → GChk → GTyp → Int → Option (Int × GChk)) : Prop :=
 ∀ {a_s : (List Val)} {a_f_0 : GChk} {a_f_1 : GTyp} {a_f_2 : Int} {b_a_f_0 : Nat} {r : Int × GChk}, f' a_s a_f_0 a_f_1 a_f_2 = some r → Ctr Tryz.prog 163 [isv (a_s), clov 124 [immv (PtrB.mk b_a_f_0), immv (a_f_1), immv (a_f_2)]] [boxE b_a_f_0 (a_f_0 : GChk)] (fun R H => R = oneOf [isv (r.1)] ∧ H = [boxE b_a_f_0 (r.2)])
def value_checker_fields_C (f' : GChk → Int → Val → Int → Option (Bool × GChk)) : Prop :=
 ∀ {a_c : GChk} {a_i : Int} {a_v : Val} {a_depth : Int} {b_a_c : Nat} {r : Bool × GChk}, f' a_c a_i a_v a_depth = some r → Ctr Tryz.prog 88 [ptrv b_a_c (Fld.id GChk), isv (a_i), isv (a_v), isv (a_depth)] [boxE b_a_c (a_c : GChk)] (fun R H => R = oneOf [isv (r.1)] ∧ H = [boxE b_a_c (r.2)])
theorem value_checker_list_c1_w0 {value_checker_list_c1' : Val → GChk → GTyp → Int → Option (Bool × GChk)} {value_checker_fits' : GChk → Int → Val → Int → Option (Bool × GChk)} {value_checker_list' : GChk → GTyp → Val → Int → Option (Bool × GChk)} {slices_ContainsFunc_Lapi_Value_api_Value' : (List Val) → GChk → GTyp → Int → Option (Bool × GChk)} {slices_IndexFunc_Lapi_Value_api_Value' : (List Val) → GChk → GTyp → Int → Option (Int × GChk)} {value_checker_fields' : GChk → Int → Val → Int → Option (Bool × GChk)} (h_value_checker_list_c1 : value_checker_list_c1_C value_checker_list_c1') (h_value_checker_fits : value_checker_fits_C value_checker_fits') (h_value_checker_list : value_checker_list_C value_checker_list') (h_slices_ContainsFunc_Lapi_Value_api_Value : slices_ContainsFunc_Lapi_Value_api_Value_C slices_ContainsFunc_Lapi_Value_api_Value') (h_slices_IndexFunc_Lapi_Value_api_Value : slices_IndexFunc_Lapi_Value_api_Value_C slices_IndexFunc_Lapi_Value_api_Value') (h_value_checker_fields : value_checker_fields_C value_checker_fields') : ∀ {a_w_ : Val} {a_a1 : GChk} {a_a2 : GTyp} {a_a3 : Int} {b_a_a1 : Nat} {r : Bool × GChk}, value_checker_list_c1_F value_checker_list_c1' value_checker_fits' value_checker_list' slices_ContainsFunc_Lapi_Value_api_Value' slices_IndexFunc_Lapi_Value_api_Value' value_checker_fields' a_w_ a_a1 a_a2 a_a3 = some r → Ctr Tryz.prog 124 [isv (a_w_), immv (PtrB.mk b_a_a1), immv (a_a2), immv (a_a3)] [boxE b_a_a1 (a_a1 : GChk)] (fun R H => R = oneOf [isv (r.1)] ∧ H = [boxE b_a_a1 (r.2)]) := by
 intro a_w_ a_a1 a_a2 a_a3 b_a_a1 r h
 unfold value_checker_list_c1_F at h
 refine spec_intro Tryz.func124 rfl (by decide +kernel) (by rfl) fun w0 S0 hT => ?_
 refine wsr (oT (t_boxIC (y := a_w_) rfl (fun _ _ h => h) (oA rfl (rnf (wsr ?_)))))
 refine oV (v_loadIP (α := GChk) ty99 rfl) (oV (v_fi rfl GTyp.f7 fd87_7 rfl (z := a_a2.of)) (oV (v_loadI ty3 rfl) (oV (v_loadI ty46 rfl) (oV (v_loadI ty3 rfl) ?_))))
 refine ck_inv h fun q1 h => oV (v_add rfl rfl q1) (cal_inv h fun y2 hy2 h => oT (t_call (h_value_checker_fits hy2) hT (.same rfl (.same rfl (.same rfl (.same rfl .nil)))) (.cons .here .nil) (fun R H' hR => ?_)))
 obtain ⟨rfl, rfl⟩ := hR
 refine oV (v_not rfl) (oA rfl (rnf (w_ret (ret_post (.tmp rfl .nil) (.cons .here .nil) ?_))))
 obtain rfl := Option.some.inj h
 exact ⟨rfl, rfl⟩

theorem value_checker_fits_w0 {value_checker_list_c1' : Val → GChk → GTyp → Int → Option (Bool × GChk)} {value_checker_fits' : GChk → Int → Val → Int → Option (Bool × GChk)} {value_checker_list' : GChk → GTyp → Val → Int → Option (Bool × GChk)} {slices_ContainsFunc_Lapi_Value_api_Value' : (List Val) → GChk → GTyp → Int → Option (Bool × GChk)} {slices_IndexFunc_Lapi_Value_api_Value' : (List Val) → GChk → GTyp → Int → Option (Int × GChk)} {value_checker_fields' : GChk → Int → Val → Int → Option (Bool × GChk)} (h_value_checker_list_c1 : value_checker_list_c1_C value_checker_list_c1') (h_value_checker_fits : value_checker_fits_C value_checker_fits') (h_value_checker_list : value_checker_list_C value_checker_list') (h_slices_ContainsFunc_Lapi_Value_api_Value : slices_ContainsFunc_Lapi_Value_api_Value_C slices_ContainsFunc_Lapi_Value_api_Value') (h_slices_IndexFunc_Lapi_Value_api_Value : slices_IndexFunc_Lapi_Value_api_Value_C slices_IndexFunc_Lapi_Value_api_Value') (h_value_checker_fields : value_checker_fields_C value_checker_fields') : ∀ {a_c : GChk} {a_i : Int} {a_v : Val} {a_depth : Int} {b_a_c : Nat} {r : Bool × GChk}, value_checker_fits_F value_checker_list_c1' value_checker_fits' value_checker_list' slices_ContainsFunc_Lapi_Value_api_Value' slices_IndexFunc_Lapi_Value_api_Value' value_checker_fields' a_c a_i a_v a_depth = some r → Ctr Tryz.prog 55 [ptrv b_a_c (Fld.id GChk), isv (a_i), isv (a_v), isv (a_depth)] [boxE b_a_c (a_c : GChk)] (fun R H => R = oneOf [isv (r.1)] ∧ H = [boxE b_a_c (r.2)]) := by
 intro a_c a_i a_v a_depth b_a_c r h
 unfold value_checker_fits_F at h
 refine spec_intro Tryz.func55 rfl (by decide +kernel) (by rfl) fun w0 S0 hT => ?_
 refine wsr (oT (t_boxIC (y := a_v) rfl (fun _ _ h => h) (oA rfl (rnf (w_seq ?_)))))
 refine wsr (oM rfl (oV (v_lss rfl rfl) (oM rfl (rl_j (jb 22) je .nil h 10 rfl (fun q1 g1 h => ?_) (fun J2 h hJ2 => ?_)))))
 ·
  refine oM rfl (rl_j (jb 26) je .nil h 3 rfl (fun q4 g4 h => ?_) (fun J5 h hJ5 => ?_))
  ·
   refine rnf (w_condM h rfl (fun _ h => ?_) (fun _ h => ?_))
   ·
    refine wsr (oA rfl (rnf (w_ret (ret_nxt ?_))))
    refine ret_post (.tmp rfl .nil) (.cons .here .nil) ?_
    obtain rfl := Option.some.inj h
    exact ⟨rfl, rfl⟩
   ·
    refine wkf (wsr (oM rfl (oV (v_nilCheck rfl) (oV (v_fa rfl GChk.f0 fd103_0) ?_))))
    refine oV (v_fa rfl GTbd.f0 fd101_0) (oV (v_fa rfl GTab.f3 fd26_3) (oT (t_loadC (R := isv (a_c.tabled.t.types)) ty24 rfl .here (fun _ _ h => h) (oM rfl (cal_inv h fun y7 hy7 h => ?_)))))
    refine oV (v_ix (l := a_c.tabled.t.types) rfl (fun _ _ h => h) rfl sl24 hy7) (oV (v_loadI ty87 rfl) (oT (t_alloc _ ze87 fun b8 => oT (t_storeC (y' := (y7 : GTyp)) ty87 rfl rfl (fun _ _ h => h) .here rfl (rl_upd (upd_imm 9 .here rfl) ?_)))))
    refine rnf (w_seq (wsr (oV (v_fi rfl Val.f0 fd46_0 rfl (z := a_v.kind)) (oV (v_loadI ty3 rfl) ?_))))
    refine oV (v_eql rfl rfl) (rnf (w_condM h rfl (fun _ h => ?_) (fun _ h => ?_)))
    ·
     refine wsr (oM rfl (oM rfl (oV (v_loadI ty46 rfl) (cal_inv h fun y9 hy9 h => ?_))))
     refine oT (t_call (value_checker_unknown_w hy9) hT (.same rfl (.same rfl (.same rfl .nil))) (.cons .here .nil) (fun R H' hR => ?_))
     obtain ⟨rfl, rfl⟩ := hR
     refine oA rfl (rnf (w_ret (ret_nxt (ret_post (.tmp rfl .nil) (.cons .here .nil) ?_))))
     obtain rfl := Option.some.inj h
     exact ⟨rfl, rfl⟩
    ·
     refine wkf (w_seq (wsr (oV (v_fi rfl Val.f0 fd46_0 rfl (z := a_v.kind)) (oV (v_loadI ty3 rfl) ?_))))
     refine oV (v_fi rfl GTyp.f0 fd87_0 rfl (z := y7.kind)) (oV (v_loadI ty3 rfl) (oV (v_neq rfl rfl) (rnf (w_condM h rfl (fun _ h => ?_) (fun _ h => ?_)))))
     ·
      refine wsr (oA rfl (rnf (w_ret (ret_nxt ?_))))
      refine ret_post (.tmp rfl .nil) (.cons .here .nil) ?_
      obtain rfl := Option.some.inj h
      exact ⟨rfl, rfl⟩
     ·
      refine wkf (w_seq (wsr (oV (v_fi rfl GTyp.f0 fd87_0 rfl (z := y7.kind)) (oV (v_loadI ty3 rfl) ?_))))
      refine rnf (w_block (wsr (oV (v_eql rfl rfl) (oA rfl ?_))))
      refine rnf (w_condM h rfl (fun _ h => ?_) (fun _ h => ?_))
      ·
       refine wsr (oV (v_loadI ty46 rfl) (cal_inv h fun y10 hy10 h => oT (t_call (value_plain_w hy10) hT (.same rfl (.same rfl .nil)) .nil (fun R H' hR => ?_))))
       obtain ⟨rfl, rfl⟩ := hR
       refine oM rfl (rl_j (jb 63) je .nil h 9 rfl (fun q11 g11 h => ?_) (fun J12 h hJ12 => ?_))
       ·
        refine oA rfl (rnf (w_ret (ret_block (ret_nxt ?_))))
        refine ret_post (.tmp rfl .nil) (.cons .here .nil) ?_
        obtain rfl := Option.some.inj h
        exact ⟨rfl, rfl⟩
       ·
        refine rl_condM (j := 54) h rfl (fun g13 h => ?_) (fun g13 h => ?_)
        ·
         refine oK 54 rfl rfl rfl g13 (v_fi rfl Val.f1 fd46_1 rfl (z := a_v.n)) (oK 54 rfl rfl rfl g13 (v_loadI ty2 rfl) (oK 54 rfl rfl rfl g13 (v_eql rfl rfl) (oK 54 rfl rfl rfl g13 (v_move rfl) (rl_j (jb 62) je .nil h 4 rfl (fun q14 g14 h => ?_) (fun J15 h hJ15 => ?_)))))
         ·
          exact oV (v_pick_t rfl g13 rfl) (hJ12 _ () h _ (join_imp 6 rfl rfl (mod_cons (j := 63) rfl (fun _ _ h => h) mod_nil) (.cons .here .nil)))
         ·
          refine rl_condM (j := 58) h rfl (fun g16 h => ?_) (fun g16 h => ?_)
          ·
           exact oP 58 rfl rfl g16 (oP 58 rfl rfl g16 (oP 58 rfl rfl g16 (oK 54 rfl rfl rfl g13 (v_pick_t rfl g16 rfl) (hJ15 _ () h _ (join_imp 4 rfl rfl (mod_cons (j := 62) rfl (fun _ _ h => h) mod_nil) (.cons .here .nil))))))
          ·
           exact oK 58 rfl rfl rfl g16 (v_fi rfl Val.f1 fd46_1 rfl (z := a_v.n)) (oK 58 rfl rfl rfl g16 (v_loadI ty2 rfl) (oK 58 rfl rfl rfl g16 (v_eql rfl rfl) (oK 54 rfl rfl rfl g13 (v_pick_f rfl g16 rfl) (hJ15 _ () h _ (join_imp 4 rfl rfl (mod_cons (j := 62) rfl (fun _ _ h => h) mod_nil) (.cons .here .nil))))))
        ·
         refine oP 54 rfl rfl g13 (oP 54 rfl rfl g13 (oP 54 rfl rfl g13 (oP 54 rfl rfl g13 (op_passU rfl (dj := 58) rfl ?_))))
         exact op_passU rfl (dj := 58) rfl (op_passU rfl (dj := 58) rfl (oP 54 rfl rfl g13 (oV (v_pick_f rfl g13 rfl) (hJ12 _ () h _ (join_imp 9 rfl rfl (mod_cons (j := 63) rfl (fun _ _ h => h) mod_nil) (.cons .here .nil))))))
      ·
       refine wsr (oV (v_eql rfl rfl) (oA rfl (rnf (w_condM h rfl (fun _ h => ?_) (fun _ h => ?_)))))
       ·
        refine wsr (oV (v_loadI ty46 rfl) (cal_inv h fun y17 hy17 h => oT (t_call (value_plain_w hy17) hT (.same rfl (.same rfl .nil)) .nil (fun R H' hR => ?_))))
        obtain ⟨rfl, rfl⟩ := hR
        refine oM rfl (rl_j (jb 79) je .nil h 11 rfl (fun q18 g18 h => ?_) (fun J19 h hJ19 => ?_))
        ·
         refine oA rfl (rnf (w_ret (ret_block (ret_nxt ?_))))
         refine ret_post (.tmp rfl .nil) (.cons .here .nil) ?_
         obtain rfl := Option.some.inj h
         exact ⟨rfl, rfl⟩
        ·
         refine rl_condM (j := 68) h rfl (fun g20 h => ?_) (fun g20 h => ?_)
         ·
          refine oK 68 rfl rfl rfl g20 (v_fi rfl GTyp.f2 fd87_2 rfl (z := y7.con)) (oK 68 rfl rfl rfl g20 (v_fi rfl GCon.f3 fd83_3 rfl (z := y7.con.more)) (oK 68 rfl rfl rfl g20 (v_loadI ty4 rfl) (oK 68 rfl rfl rfl g20 (v_move rfl) (rl_j (jb 78) je .nil h 6 rfl (fun q21 g21 h => ?_) (fun J22 h hJ22 => ?_)))))
          ·
           exact oV (v_pick_t rfl g20 rfl) (hJ19 _ () h _ (join_imp 6 rfl rfl (mod_cons (j := 79) rfl (fun _ _ h => h) mod_nil) (.cons .here .nil)))
          ·
           refine rl_condM (j := 72) h rfl (fun g23 h => ?_) (fun g23 h => ?_)
           ·
            refine oP 72 rfl rfl g23 (oP 72 rfl rfl g23 (oP 72 rfl rfl g23 (oP 72 rfl rfl g23 (oP 72 rfl rfl g23 ?_))))
            exact oK 68 rfl rfl rfl g20 (v_pick_t rfl g23 rfl) (hJ22 _ () h _ (join_imp 6 rfl rfl (mod_cons (j := 78) rfl (fun _ _ h => h) mod_nil) (.cons .here .nil)))
           ·
            refine oK 72 rfl rfl rfl g23 (v_fi rfl GTyp.f2 fd87_2 rfl (z := y7.con)) (oK 72 rfl rfl rfl g23 (v_loadI ty83 rfl) (oK 72 rfl rfl rfl g23 (v_fi rfl Val.f1 fd46_1 rfl (z := a_v.n)) (oK 72 rfl rfl rfl g23 (v_loadI ty2 rfl) (cal_inv h fun y24 hy24 h => ?_))))
            refine op_take rfl rfl (dj := 72) rfl g23 (t_call (bounds_Within_w hy24) hT (.same rfl (.same rfl .nil)) .nil (fun R H' hR => ?_))
            obtain ⟨rfl, rfl⟩ := hR
            exact oK 68 rfl rfl rfl g20 (v_pick_f rfl g23 rfl) (hJ22 _ () h _ (join_imp 6 rfl rfl (mod_cons (j := 78) rfl (fun _ _ h => h) mod_nil) (.cons .here .nil)))
         ·
          refine oP 68 rfl rfl g20 (oP 68 rfl rfl g20 (oP 68 rfl rfl g20 (oP 68 rfl rfl g20 (op_passU rfl (dj := 72) rfl ?_))))
          refine op_passU rfl (dj := 72) rfl (op_passU rfl (dj := 72) rfl (op_passU rfl (dj := 72) rfl (op_passU rfl (dj := 72) rfl (oP 68 rfl rfl g20 ?_))))
          exact oV (v_pick_f rfl g20 rfl) (hJ19 _ () h _ (join_imp 11 rfl rfl (mod_cons (j := 79) rfl (fun _ _ h => h) mod_nil) (.cons .here .nil)))
       ·
        refine wsr (oV (v_eql rfl rfl) (oA rfl (rnf (w_condM h rfl (fun _ h => ?_) (fun _ h => ?_)))))
        ·
         refine wsr (oV (v_loadI ty46 rfl) (cal_inv h fun y25 hy25 h => oT (t_call (value_plain_w hy25) hT (.same rfl (.same rfl .nil)) .nil (fun R H' hR => ?_))))
         obtain ⟨rfl, rfl⟩ := hR
         refine oM rfl (rl_j (jb 90) je .nil h 6 rfl (fun q26 g26 h => ?_) (fun J27 h hJ27 => ?_))
         ·
          refine oA rfl (rnf (w_ret (ret_block (ret_nxt ?_))))
          refine ret_post (.tmp rfl .nil) (.cons .here .nil) ?_
          obtain rfl := Option.some.inj h
          exact ⟨rfl, rfl⟩
         ·
          refine rl_condM (j := 84) h rfl (fun g28 h => ?_) (fun g28 h => ?_)
          ·
           refine oK 84 rfl rfl rfl g28 (v_loadI ty87 rfl) (oK 84 rfl rfl rfl g28 (v_fi rfl Val.f1 fd46_1 rfl (z := a_v.n)) (oK 84 rfl rfl rfl g28 (v_loadI ty2 rfl) (cal_inv h fun y29 hy29 h => op_take rfl rfl (dj := 84) rfl g28 (t_call (value_Item_w hy29) hT (.same rfl (.same rfl .nil)) .nil (fun R H' hR => ?_)))))
           obtain ⟨rfl, rfl⟩ := hR
           exact oK 84 rfl rfl rfl g28 (v_geq rfl rfl) (oV (v_pick_t rfl g28 rfl) (hJ27 _ () h _ (join_imp 6 rfl rfl (mod_cons (j := 90) rfl (fun _ _ h => h) mod_nil) (.cons .here .nil))))
          ·
           refine oP 84 rfl rfl g28 (oP 84 rfl rfl g28 (oP 84 rfl rfl g28 (oP 84 rfl rfl g28 (oP 84 rfl rfl g28 ?_))))
           exact oV (v_pick_f rfl g28 rfl) (hJ27 _ () h _ (join_imp 6 rfl rfl (mod_cons (j := 90) rfl (fun _ _ h => h) mod_nil) (.cons .here .nil)))
        ·
         refine wsr (oV (v_eql rfl rfl) (oA rfl (rnf (w_condM h rfl (fun _ h => ?_) (fun _ h => ?_)))))
         ·
          refine wsr (oV (v_loadI ty46 rfl) (cal_inv h fun y30 hy30 h => oT (t_call (value_plain_w hy30) hT (.same rfl (.same rfl .nil)) .nil (fun R H' hR => ?_))))
          obtain ⟨rfl, rfl⟩ := hR
          refine oA rfl (rnf (w_ret (ret_block (ret_nxt ?_))))
          refine ret_post (.tmp rfl .nil) (.cons .here .nil) ?_
          obtain rfl := Option.some.inj h
          exact ⟨rfl, rfl⟩
         ·
          refine w_seq (wsr (oV (v_eql rfl rfl) (oA rfl (rnf ?_))))
          refine w_J (jb 95) je .nil h (fun q31 g31 h => ?_) (fun J32 h hJ32 => ?_)
          ·
           refine w_condM h rfl (fun _ h => ?_) (fun _ h => ?_)
           ·
            refine wsr (oM rfl (oV (v_loadI ty87 rfl) (oV (v_loadI ty46 rfl) (cal_inv h fun y33 hy33 h => ?_))))
            refine oT (t_call (value_checker_string_w hy33) hT (.same rfl (.same rfl (.same rfl .nil))) (.cons .here .nil) (fun R H' hR => ?_))
            obtain ⟨rfl, rfl⟩ := hR
            refine oA rfl (rnf (w_ret (ret_block (ret_nxt ?_))))
            refine ret_post (.tmp rfl .nil) (.cons .here .nil) ?_
            obtain rfl := Option.some.inj h
            exact ⟨rfl, rfl⟩
           ·
            refine wsr (oV (v_eql rfl rfl) (oA rfl (rnf (w_condM h rfl (fun _ h => ?_) (fun _ h => ?_)))))
            ·
             refine wsr (oM rfl (oV (v_loadI ty87 rfl) (oV (v_loadI ty46 rfl) (oM rfl ?_))))
             refine cal_inv h fun y34 hy34 h => oT (t_call (h_value_checker_list hy34) hT (.same rfl (.same rfl (.same rfl (.same rfl .nil)))) (.cons .here .nil) (fun R H' hR => ?_))
             obtain ⟨rfl, rfl⟩ := hR
             refine oA rfl (rnf (w_ret (ret_block (ret_nxt ?_))))
             refine ret_post (.tmp rfl .nil) (.cons .here .nil) ?_
             obtain rfl := Option.some.inj h
             exact ⟨rfl, rfl⟩
            ·
             refine wsr (oV (v_eql rfl rfl) (oA rfl (rnf (w_condM h rfl (fun _ h => ?_) (fun _ h => ?_)))))
             ·
              refine w_seq (w_regionD (.v 0 (.t 1 (.v 2 (.v 3 (.v 4 (.v 5 (.v 6 (.v 7 (.v 8 (.v 9 (.v 10 (.v 11 (.v 12 (.v 13 (.v 14 (.v 15 (.v 16 (.v 17 (.v 18 (.v 19 (.v 20 (.v 21 (.v 22 (.v 23 (.v 24 (.v 25 (.v 26 (.v 27 (.v 28 (.v 29 (.v 30 (.v 31 (.v 32 (.v 33 (.v 34 (.v 35 (.t 36 (.v 37 (.v 38 .nil))))))))))))))))))))))))))))))))))))))) moOrd (by kernel_rfl) ?_)
              refine rd_v rfl (v_loadI ty46 rfl) (cal_inv h fun y35 hy35 h => rd_t rfl rfl (t_call (value_plain_w hy35) hT (.same rfl (.same rfl .nil)) .nil (fun R H' hR => ?_)))
              obtain ⟨rfl, rfl⟩ := hR
              refine rvm rfl rfl (rd_j (jb 117) je .nil h 4 rfl (fun q36 g36 h => ?_) (fun J37 h hJ37 => ?_))
              ·
               refine rvm rfl rfl (rd_j (jb 125) je .nil h 7 rfl (fun q39 g39 h => ?_) (fun J40 h hJ40 => ?_))
               ·
                refine rvm rfl rfl (rd_j (jb 131) je .nil h 5 rfl (fun q42 g42 h => ?_) (fun J43 h hJ43 => ?_))
                ·
                 refine rvm rfl rfl (rd_j (ι := Bool × GChk) (γ := Unit) (fun q45 g45 => [(148, isv (q45.1))]) (fun q45 g45 => [boxE b_a_c (q45.2 : GChk)]) (.cons .here .nil) h 16 rfl (fun q45 g45 h => ?_) (fun J46 h hJ46 => ?_))
                 ·
                  refine rd_v rfl (v_assign rfl) (rd_nil (fin_nxt (w_ret (ret_block ?_))))
                  refine ret_nxt (ret_post (.tmp rfl .nil) (.cons .here .nil) ?_)
                  obtain rfl := Option.some.inj h
                  exact ⟨rfl, rfl⟩
                 ·
                  refine rd_condM (j := 132) h rfl (fun g47 h => ?_) (fun g47 h => ?_)
                  ·
                   refine rvt 132 rfl rfl rfl g47 (v_move rfl) (rvt 132 rfl rfl rfl g47 (v_fi rfl GTyp.f4 fd87_4 rfl (z := y7.fields)) (rvt 132 rfl rfl rfl g47 (v_loadI ty85 rfl) (rvt 132 rfl rfl rfl g47 (v_fi rfl Val.f1 fd46_1 rfl (z := a_v.n)) (rvt 132 rfl rfl rfl g47 (v_loadI ty2 rfl) ?_))))
                   refine cal_inv h fun y48 hy48 h => rvt 132 rfl rfl rfl g47 (v_ix (l := y7.fields) rfl (fun _ _ h => h) rfl sl85 hy48) (rvt 132 rfl rfl rfl g47 (v_fi rfl GFld.f1 fd92_1 rfl (z := y48.ty)) (rvt 132 rfl rfl rfl g47 (v_loadI ty3 rfl) (rvt 132 rfl rfl rfl g47 (v_fi rfl Val.f3 fd46_3 rfl (z := a_v.l)) ?_)))
                   refine rvt 132 rfl rfl rfl g47 (v_loadI ty43 rfl) (cal_inv h fun y49 hy49 h => rvt 132 rfl rfl rfl g47 (v_ix (l := a_v.l) rfl (fun _ _ h => h) rfl sl43 hy49) (rvt 132 rfl rfl rfl g47 (v_loadI ty46 rfl) (rvt 132 rfl rfl rfl g47 (v_move rfl) ?_)))
                   refine ck_inv h fun q50 h => rvt 132 rfl rfl rfl g47 (v_add rfl rfl q50) (cal_inv h fun y51 hy51 h => rd_tt rfl rfl rfl (dj := 132) rfl g47 (t_call (h_value_checker_fits hy51) hT (.same rfl (.same rfl (.same rfl (.same rfl .nil)))) (.cons .here .nil) (fun R H' hR => ?_)))
                   obtain ⟨rfl, rfl⟩ := hR
                   exact rd_v rfl (v_pick_t rfl g47 rfl) (hJ46 _ () h _ (join_imp 16 rfl rfl (mod_cons (j := 148) rfl (fun _ _ h => h) mod_nil) (.cons .here .nil)))
                  ·
                   refine rpv 132 rfl rfl rfl g47 (rpv 132 rfl rfl rfl g47 (rpv 132 rfl rfl rfl g47 (rpv 132 rfl rfl rfl g47 (rpv 132 rfl rfl rfl g47 ?_))))
                   refine rpv 132 rfl rfl rfl g47 (rpv 132 rfl rfl rfl g47 (rpv 132 rfl rfl rfl g47 (rpv 132 rfl rfl rfl g47 (rpv 132 rfl rfl rfl g47 ?_))))
                   refine rpv 132 rfl rfl rfl g47 (rpv 132 rfl rfl rfl g47 (rpv 132 rfl rfl rfl g47 (rpv 132 rfl rfl rfl g47 (rd_passT rfl rfl (dj := 132) rfl g47 ?_))))
                   exact rd_v rfl (v_pick_f rfl g47 rfl) (hJ46 _ () h _ (join_imp 16 rfl rfl (mod_cons (j := 148) rfl (fun _ _ h => h) mod_nil) (.cons .here .nil)))
                ·
                 refine rd_condM (j := 126) h rfl (fun g44 h => ?_) (fun g44 h => ?_)
                 ·
                  refine rvt 126 rfl rfl rfl g44 (v_fi rfl Val.f3 fd46_3 rfl (z := a_v.l)) (rvt 126 rfl rfl rfl g44 (v_loadI ty43 rfl) (rvt 126 rfl rfl rfl g44 (v_ln (l := a_v.l) rfl (fun _ _ h => h) sl43) (rvt 126 rfl rfl rfl g44 (v_eql rfl rfl) (rd_v rfl (v_pick_t rfl g44 rfl) ?_))))
                  exact hJ43 _ () h _ (join_imp 5 rfl rfl (mod_cons (j := 131) rfl (fun _ _ h => h) mod_nil) (.cons .here .nil))
                 ·
                  refine rpv 126 rfl rfl rfl g44 (rpv 126 rfl rfl rfl g44 (rpv 126 rfl rfl rfl g44 (rpv 126 rfl rfl rfl g44 (rd_v rfl (v_pick_f rfl g44 rfl) ?_))))
                  exact hJ43 _ () h _ (join_imp 5 rfl rfl (mod_cons (j := 131) rfl (fun _ _ h => h) mod_nil) (.cons .here .nil))
               ·
                refine rd_condM (j := 118) h rfl (fun g41 h => ?_) (fun g41 h => ?_)
                ·
                 refine rvt 118 rfl rfl rfl g41 (v_fi rfl Val.f1 fd46_1 rfl (z := a_v.n)) (rvt 118 rfl rfl rfl g41 (v_loadI ty2 rfl) (rvt 118 rfl rfl rfl g41 (v_fi rfl GTyp.f4 fd87_4 rfl (z := y7.fields)) (rvt 118 rfl rfl rfl g41 (v_loadI ty85 rfl) (rvt 118 rfl rfl rfl g41 (v_ln (l := y7.fields) rfl (fun _ _ h => h) sl85) ?_))))
                 exact rvt 118 rfl rfl rfl g41 (v_lss rfl rfl) (rd_v rfl (v_pick_t rfl g41 rfl) (hJ40 _ () h _ (join_imp 7 rfl rfl (mod_cons (j := 125) rfl (fun _ _ h => h) mod_nil) (.cons .here .nil))))
                ·
                 refine rpv 118 rfl rfl rfl g41 (rpv 118 rfl rfl rfl g41 (rpv 118 rfl rfl rfl g41 (rpv 118 rfl rfl rfl g41 (rpv 118 rfl rfl rfl g41 ?_))))
                 exact rpv 118 rfl rfl rfl g41 (rd_v rfl (v_pick_f rfl g41 rfl) (hJ40 _ () h _ (join_imp 7 rfl rfl (mod_cons (j := 125) rfl (fun _ _ h => h) mod_nil) (.cons .here .nil))))
              ·
               refine rd_condM (j := 113) h rfl (fun g38 h => ?_) (fun g38 h => ?_)
               ·
                exact rvt 113 rfl rfl rfl g38 (v_fi rfl Val.f1 fd46_1 rfl (z := a_v.n)) (rvt 113 rfl rfl rfl g38 (v_loadI ty2 rfl) (rvt 113 rfl rfl rfl g38 (v_geq rfl rfl) (rd_v rfl (v_pick_t rfl g38 rfl) (hJ37 _ () h _ (join_imp 4 rfl rfl (mod_cons (j := 117) rfl (fun _ _ h => h) mod_nil) (.cons .here .nil))))))
               ·
                exact rpv 113 rfl rfl rfl g38 (rpv 113 rfl rfl rfl g38 (rpv 113 rfl rfl rfl g38 (rd_v rfl (v_pick_f rfl g38 rfl) (hJ37 _ () h _ (join_imp 4 rfl rfl (mod_cons (j := 117) rfl (fun _ _ h => h) mod_nil) (.cons .here .nil))))))
             ·
              refine w_seq (wsr (oV (v_eql rfl rfl) (oA rfl (rnf ?_))))
              refine w_J (jb 149) je .nil h (fun q52 g52 h => ?_) (fun J53 h hJ53 => ?_)
              ·
               refine w_condM h rfl (fun _ h => ?_) (fun _ h => ?_)
               ·
                refine wsr (oM rfl (oM rfl (oV (v_loadI ty46 rfl) (oM rfl ?_))))
                refine cal_inv h fun y54 hy54 h => oT (t_call (h_value_checker_fields hy54) hT (.same rfl (.same rfl (.same rfl (.same rfl .nil)))) (.cons .here .nil) (fun R H' hR => ?_))
                obtain ⟨rfl, rfl⟩ := hR
                refine oA rfl (rnf (w_ret (ret_block (ret_nxt ?_))))
                refine ret_post (.tmp rfl .nil) (.cons .here .nil) ?_
                obtain rfl := Option.some.inj h
                exact ⟨rfl, rfl⟩
               ·
                refine w_skip (fin_block (fin_nxt (wsr (oA rfl ?_))))
                refine rnf (w_ret (ret_post (.tmp rfl .nil) (.cons .here .nil) ?_))
                obtain rfl := Option.some.inj h
                exact ⟨rfl, rfl⟩
              ·
               refine w_condM h rfl (fun _ h => ?_) (fun _ h => ?_)
               ·
                exact w_skip (hJ53 _ () h _ (join_imp 0 rfl rfl (mod_cons (j := 149) rfl (fun _ _ h => h) mod_nil) (.cons .here .nil)))
               ·
                exact w_region (oV (v_eql rfl rfl) (oA rfl (rl_nil (hJ53 _ () h _ (join_imp 2 rfl rfl (mod_cons (j := 149) rfl (fun _ _ h => h) mod_nil) (.cons .here .nil))))))
          ·
           refine w_condM h rfl (fun _ h => ?_) (fun _ h => ?_)
           ·
            exact w_skip (hJ32 _ () h _ (join_imp 0 rfl rfl (mod_cons (j := 95) rfl (fun _ _ h => h) mod_nil) (.cons .here .nil)))
           ·
            exact w_region (oV (v_eql rfl rfl) (oA rfl (rl_nil (hJ32 _ () h _ (join_imp 2 rfl rfl (mod_cons (j := 95) rfl (fun _ _ h => h) mod_nil) (.cons .here .nil))))))
  ·
   refine rl_condM (j := 23) h rfl (fun g6 h => ?_) (fun g6 h => ?_)
   ·
    exact oP 23 rfl rfl g6 (oP 23 rfl rfl g6 (oV (v_pick_t rfl g6 rfl) (hJ5 _ () h _ (join_imp 3 rfl rfl (mod_cons (j := 26) rfl (fun _ _ h => h) mod_nil) (.cons .here .nil)))))
   ·
    exact oK 23 rfl rfl rfl g6 (v_move rfl) (oK 23 rfl rfl rfl g6 (v_gtr rfl rfl) (oV (v_pick_f rfl g6 rfl) (hJ5 _ () h _ (join_imp 3 rfl rfl (mod_cons (j := 26) rfl (fun _ _ h => h) mod_nil) (.cons .here .nil)))))
 ·
  refine rl_condM (j := 12) h rfl (fun g3 h => ?_) (fun g3 h => ?_)
  ·
   refine oP 12 rfl rfl g3 (oP 12 rfl rfl g3 (oP 12 rfl rfl g3 (oP 12 rfl rfl g3 (oP 12 rfl rfl g3 ?_))))
   refine oP 12 rfl rfl g3 (oP 12 rfl rfl g3 (oP 12 rfl rfl g3 (oP 12 rfl rfl g3 (oV (v_pick_t rfl g3 rfl) ?_))))
   exact hJ2 _ () h _ (join_imp 10 rfl rfl (mod_cons (j := 22) rfl (fun _ _ h => h) mod_nil) (.cons .here .nil))
  ·
   refine oK 12 rfl rfl rfl g3 (v_move rfl) (oK 12 rfl rfl rfl g3 (v_move rfl) (oK 12 rfl rfl rfl g3 (v_nilCheck rfl) (oK 12 rfl rfl rfl g3 (v_fa rfl GChk.f0 fd103_0) (oK 12 rfl rfl rfl g3 (v_fa rfl GTbd.f0 fd101_0) ?_))))
   refine oK 12 rfl rfl rfl g3 (v_fa rfl GTab.f3 fd26_3) (op_take rfl rfl (dj := 12) rfl g3 (t_loadC (R := isv (a_c.tabled.t.types)) ty24 rfl .here (fun _ _ h => h) (oK 12 rfl rfl rfl g3 (v_ln (l := a_c.tabled.t.types) rfl (fun _ _ h => h) sl24) (oK 12 rfl rfl rfl g3 (v_geq rfl rfl) (oV (v_pick_f rfl g3 rfl) ?_)))))
   exact hJ2 _ () h _ (join_imp 10 rfl rfl (mod_cons (j := 22) rfl (fun _ _ h => h) mod_nil) (.cons .here .nil))

theorem value_checker_list_w0 {value_checker_list_c1' : Val → GChk → GTyp → Int → Option (Bool × GChk)} {value_checker_fits' : GChk → Int → Val → Int → Option (Bool × GChk)} {value_checker_list' : GChk → GTyp → Val → Int → Option (Bool × GChk)} {slices_ContainsFunc_Lapi_Value_api_Value' : (List Val) → GChk → GTyp → Int → Option (Bool × GChk)} {slices_IndexFunc_Lapi_Value_api_Value' : (List Val) → GChk → GTyp → Int → Option (Int × GChk)} {value_checker_fields' : GChk → Int → Val → Int → Option (Bool × GChk)} (h_value_checker_list_c1 : value_checker_list_c1_C value_checker_list_c1') (h_value_checker_fits : value_checker_fits_C value_checker_fits') (h_value_checker_list : value_checker_list_C value_checker_list') (h_slices_ContainsFunc_Lapi_Value_api_Value : slices_ContainsFunc_Lapi_Value_api_Value_C slices_ContainsFunc_Lapi_Value_api_Value') (h_slices_IndexFunc_Lapi_Value_api_Value : slices_IndexFunc_Lapi_Value_api_Value_C slices_IndexFunc_Lapi_Value_api_Value') (h_value_checker_fields : value_checker_fields_C value_checker_fields') : ∀ {a_c : GChk} {a_x : GTyp} {a_v : Val} {a_depth : Int} {b_a_c : Nat} {r : Bool × GChk}, value_checker_list_F value_checker_list_c1' value_checker_fits' value_checker_list' slices_ContainsFunc_Lapi_Value_api_Value' slices_IndexFunc_Lapi_Value_api_Value' value_checker_fields' a_c a_x a_v a_depth = some r → Ctr Tryz.prog 87 [ptrv b_a_c (Fld.id GChk), isv (a_x), isv (a_v), isv (a_depth)] [boxE b_a_c (a_c : GChk)] (fun R H => R = oneOf [isv (r.1)] ∧ H = [boxE b_a_c (r.2)]) := by
 intro a_c a_x a_v a_depth b_a_c r h
 unfold value_checker_list_F at h
 refine spec_intro Tryz.func87 rfl (by decide +kernel) (by rfl) fun w0 S0 hT => ?_
 refine wsr (oT (t_boxIC (y := PtrB.mk b_a_c) rfl ptr_isv (oT (t_boxIC (y := a_x) rfl (fun _ _ h => h) (oT (t_boxIC (y := a_v) rfl (fun _ _ h => h) (oT (t_boxIC (y := a_depth) rfl (fun _ _ h => h) ?_))))))))
 refine oA rfl (rnf (wsr (oV (v_loadI ty46 rfl) (cal_inv h fun y1 hy1 h => ?_))))
 refine oT (t_call (value_plain_w hy1) hT (.same rfl (.same rfl .nil)) .nil (fun R H' hR => ?_))
 obtain ⟨rfl, rfl⟩ := hR
 refine oM rfl (rl_j (jb 23) je .nil h 12 rfl (fun q2 g2 h => ?_) (fun J3 h hJ3 => ?_))
 ·
  refine oM rfl (rl_j (ι := Bool × GChk) (γ := Unit) (fun q9 g9 => [(30, isv (q9.1))]) (fun q9 g9 => [boxE b_a_c (q9.2 : GChk)]) (.cons .here .nil) h 6 rfl (fun q9 g9 h => ?_) (fun J10 h hJ10 => ?_))
  ·
   refine oA rfl (rnf (w_ret (ret_post (.tmp rfl .nil) (.cons .here .nil) ?_)))
   obtain rfl := Option.some.inj h
   exact ⟨rfl, rfl⟩
  ·
   refine rl_condM (j := 24) h rfl (fun g11 h => ?_) (fun g11 h => ?_)
   ·
    refine oK 24 rfl rfl rfl g11 (v_fi rfl Val.f3 fd46_3 rfl (z := a_v.l)) (oK 24 rfl rfl rfl g11 (v_loadI ty43 rfl) (oK 24 rfl rfl rfl g11 (v_makeFunc (.same rfl (.same rfl (.same rfl .nil)))) (cal_inv h fun y12 hy12 h => op_take rfl rfl (dj := 24) rfl g11 (t_call (h_slices_ContainsFunc_Lapi_Value_api_Value hy12) hT (.same rfl (.same rfl .nil)) (.cons .here .nil) (fun R H' hR => ?_)))))
    obtain ⟨rfl, rfl⟩ := hR
    exact oK 24 rfl rfl rfl g11 (v_not rfl) (oV (v_pick_t rfl g11 rfl) (hJ10 _ () h _ (join_imp 6 rfl rfl (mod_cons (j := 30) rfl (fun _ _ h => h) mod_nil) (.cons .here .nil))))
   ·
    refine oP 24 rfl rfl g11 (oP 24 rfl rfl g11 (oP 24 rfl rfl g11 (oP 24 rfl rfl g11 (oP 24 rfl rfl g11 ?_))))
    exact oV (v_pick_f rfl g11 rfl) (hJ10 _ () h _ (join_imp 6 rfl rfl (mod_cons (j := 30) rfl (fun _ _ h => h) mod_nil) (.cons .here .nil)))
 ·
  refine rl_condM (j := 11) h rfl (fun g4 h => ?_) (fun g4 h => ?_)
  ·
   refine oK 11 rfl rfl rfl g4 (v_fi rfl GTyp.f2 fd87_2 rfl (z := a_x.con)) (oK 11 rfl rfl rfl g4 (v_fi rfl GCon.f3 fd83_3 rfl (z := a_x.con.more)) (oK 11 rfl rfl rfl g4 (v_loadI ty4 rfl) (oK 11 rfl rfl rfl g4 (v_move rfl) (rl_j (jb 22) je .nil h 7 rfl (fun q5 g5 h => ?_) (fun J6 h hJ6 => ?_)))))
   ·
    exact oV (v_pick_t rfl g4 rfl) (hJ3 _ () h _ (join_imp 6 rfl rfl (mod_cons (j := 23) rfl (fun _ _ h => h) mod_nil) (.cons .here .nil)))
   ·
    refine rl_condM (j := 15) h rfl (fun g7 h => ?_) (fun g7 h => ?_)
    ·
     refine oP 15 rfl rfl g7 (oP 15 rfl rfl g7 (oP 15 rfl rfl g7 (oP 15 rfl rfl g7 (oP 15 rfl rfl g7 ?_))))
     exact oP 15 rfl rfl g7 (oK 11 rfl rfl rfl g4 (v_pick_t rfl g7 rfl) (hJ6 _ () h _ (join_imp 7 rfl rfl (mod_cons (j := 22) rfl (fun _ _ h => h) mod_nil) (.cons .here .nil))))
    ·
     refine oK 15 rfl rfl rfl g7 (v_fi rfl GTyp.f2 fd87_2 rfl (z := a_x.con)) (oK 15 rfl rfl rfl g7 (v_loadI ty83 rfl) (oK 15 rfl rfl rfl g7 (v_fi rfl Val.f3 fd46_3 rfl (z := a_v.l)) (oK 15 rfl rfl rfl g7 (v_loadI ty43 rfl) (oK 15 rfl rfl rfl g7 (v_ln (l := a_v.l) rfl (fun _ _ h => h) sl43) ?_))))
     refine cal_inv h fun y8 hy8 h => op_take rfl rfl (dj := 15) rfl g7 (t_call (bounds_Within_w hy8) hT (.same rfl (.same rfl .nil)) .nil (fun R H' hR => ?_))
     obtain ⟨rfl, rfl⟩ := hR
     exact oK 11 rfl rfl rfl g4 (v_pick_f rfl g7 rfl) (hJ6 _ () h _ (join_imp 7 rfl rfl (mod_cons (j := 22) rfl (fun _ _ h => h) mod_nil) (.cons .here .nil)))
  ·
   refine oP 11 rfl rfl g4 (oP 11 rfl rfl g4 (oP 11 rfl rfl g4 (oP 11 rfl rfl g4 (op_passU rfl (dj := 15) rfl ?_))))
   refine op_passU rfl (dj := 15) rfl (op_passU rfl (dj := 15) rfl (op_passU rfl (dj := 15) rfl (op_passU rfl (dj := 15) rfl (op_passU rfl (dj := 15) rfl ?_))))
   exact oP 11 rfl rfl g4 (oV (v_pick_f rfl g4 rfl) (hJ3 _ () h _ (join_imp 12 rfl rfl (mod_cons (j := 23) rfl (fun _ _ h => h) mod_nil) (.cons .here .nil))))

theorem slices_ContainsFunc_Lapi_Value_api_Value_w0 {value_checker_list_c1' : Val → GChk → GTyp → Int → Option (Bool × GChk)} {value_checker_fits' : GChk → Int → Val → Int → Option (Bool × GChk)} {value_checker_list' : GChk → GTyp → Val → Int → Option (Bool × GChk)} {slices_ContainsFunc_Lapi_Value_api_Value' : (List Val) → GChk → GTyp → Int → Option (Bool × GChk)} {slices_IndexFunc_Lapi_Value_api_Value' : (List Val) → GChk → GTyp → Int → Option (Int × GChk)} {value_checker_fields' : GChk → Int → Val → Int → Option (Bool × GChk)} (h_value_checker_list_c1 : value_checker_list_c1_C value_checker_list_c1') (h_value_checker_fits : value_checker_fits_C value_checker_fits') (h_value_checker_list : value_checker_list_C value_checker_list') (h_slices_ContainsFunc_Lapi_Value_api_Value : slices_ContainsFunc_Lapi_Value_api_Value_C slices_ContainsFunc_Lapi_Value_api_Value') (h_slices_IndexFunc_Lapi_Value_api_Value : slices_IndexFunc_Lapi_Value_api_Value_C slices_IndexFunc_Lapi_Value_api_Value') (h_value_checker_fields : value_checker_fields_C value_checker_fields') : ∀ {a_s : (List Val)} {a_f_0 : GChk} {a_f_1 : GTyp} {a_f_2 : Int} {b_a_f_0 : Nat} {r : Bool × GChk}, slices_ContainsFunc_Lapi_Value_api_Value_F value_checker_list_c1' value_checker_fits' value_checker_list' slices_ContainsFunc_Lapi_Value_api_Value' slices_IndexFunc_Lapi_Value_api_Value' value_checker_fields' a_s a_f_0 a_f_1 a_f_2 = some r → Ctr Tryz.prog 123 [isv (a_s), clov 124 [immv (PtrB.mk b_a_f_0), immv (a_f_1), immv (a_f_2)]] [boxE b_a_f_0 (a_f_0 : GChk)] (fun R H => R = oneOf [isv (r.1)] ∧ H = [boxE b_a_f_0 (r.2)]) := by
 intro a_s a_f_0 a_f_1 a_f_2 b_a_f_0 r h
 unfold slices_ContainsFunc_Lapi_Value_api_Value_F at h
 refine spec_intro Tryz.func123 rfl (by decide +kernel) (by rfl) fun w0 S0 hT => ?_
 refine wsr (oA rfl (rnf (wsr (oM rfl ?_))))
 refine oM rfl (cal_inv h fun y1 hy1 h => oT (t_call (h_slices_IndexFunc_Lapi_Value_api_Value hy1) hT (.same rfl (.same rfl .nil)) (.cons .here .nil) (fun R H' hR => ?_)))
 obtain ⟨rfl, rfl⟩ := hR
 refine oV (v_geq rfl rfl) (oA rfl (rnf (w_ret (ret_post (.tmp rfl .nil) (.cons .here .nil) ?_))))
 obtain rfl := Option.some.inj h
 exact ⟨rfl, rfl⟩

theorem slices_IndexFunc_Lapi_Value_api_Value_w0 {value_checker_list_c1' : Val → GChk → GTyp → Int → Option (Bool × GChk)} {value_checker_fits' : GChk → Int → Val → Int → Option (Bool × GChk)} {value_checker_list' : GChk → GTyp → Val → Int → Option (Bool × GChk)} {slices_ContainsFunc_Lapi_Value_api_Value' : (List Val) → GChk → GTyp → Int → Option (Bool × GChk)} {slices_IndexFunc_Lapi_Value_api_Value' : (List Val) → GChk → GTyp → Int → Option (Int × GChk)} {value_checker_fields' : GChk → Int → Val → Int → Option (Bool × GChk)} (h_value_checker_list_c1 : value_checker_list_c1_C value_checker_list_c1') (h_value_checker_fits : value_checker_fits_C value_checker_fits') (h_value_checker_list : value_checker_list_C value_checker_list') (h_slices_ContainsFunc_Lapi_Value_api_Value : slices_ContainsFunc_Lapi_Value_api_Value_C slices_ContainsFunc_Lapi_Value_api_Value') (h_slices_IndexFunc_Lapi_Value_api_Value : slices_IndexFunc_Lapi_Value_api_Value_C slices_IndexFunc_Lapi_Value_api_Value') (h_value_checker_fields : value_checker_fields_C value_checker_fields') : ∀ {a_s : (List Val)} {a_f_0 : GChk} {a_f_1 : GTyp} {a_f_2 : Int} {b_a_f_0 : Nat} {r : Int × GChk}, slices_IndexFunc_Lapi_Value_api_Value_F value_checker_list_c1' value_checker_fits' value_checker_list' slices_ContainsFunc_Lapi_Value_api_Value' slices_IndexFunc_Lapi_Value_api_Value' value_checker_fields' a_s a_f_0 a_f_1 a_f_2 = some r → Ctr Tryz.prog 163 [isv (a_s), clov 124 [immv (PtrB.mk b_a_f_0), immv (a_f_1), immv (a_f_2)]] [boxE b_a_f_0 (a_f_0 : GChk)] (fun R H => R = oneOf [isv (r.1)] ∧ H = [boxE b_a_f_0 (r.2)]) := by
 intro a_s a_f_0 a_f_1 a_f_2 b_a_f_0 r h
 unfold slices_IndexFunc_Lapi_Value_api_Value_F at h
 refine spec_intro Tryz.func163 rfl (by decide +kernel) (by rfl) fun w0 S0 hT => ?_
 refine wsr (oA rfl (rnf (w_seq (wsr ?_))))
 refine oM rfl (oV (v_ln (l := a_s) rfl (fun _ _ h => h) sl43) (oM rfl (rnf (w_block ?_))))
 refine w_lp (ι := Int × GChk) (γ := Unit) (fun q1 g1 => [(8, isv (q1.1))]) (fun q1 g1 => [boxE b_a_f_0 (q1.2 : GChk)]) h () (mod_cons (j := 8) rfl (fun _ _ h => h) mod_nil) (.cons .here .nil) (fun L2 q1 g1 Q9 h hL2 eL2 rL2 => wsr (oV (v_lss rfl rfl) (rnf (w_seq ?_))))
 refine w_condM h rfl (fun _ h => ?_) (fun _ h => ?_)
 ·
  refine wkf (w_seq (w_block (wsr (oM rfl ?_))))
  refine oA rfl (rnf (wsr (oM rfl (oM rfl ?_))))
  refine oM rfl (cal_inv h fun y6 hy6 h => oV (v_ix (l := a_s) rfl (fun _ _ h => h) rfl sl43 hy6) (oV (v_loadI ty46 rfl) (cal_inv h fun y7 hy7 h => ?_)))
  refine oT (t_callC rfl (.same rfl .nil) (h_value_checker_list_c1 hy7) hT (.cons .here .nil) (fun R H' hR => ?_))
  obtain ⟨rfl, rfl⟩ := hR
  refine rnf (w_condM h rfl (fun _ h => ?_) (fun _ h => ?_))
  ·
   refine wsr (oM rfl (oA rfl (rnf (w_ret ?_))))
   refine ret_block (ret_nxt (rL2 _ (ret_block (ret_nxt ?_))))
   refine ret_post (.tmp rfl .nil) (.cons .here .nil) ?_
   obtain rfl := Option.some.inj h
   exact ⟨rfl, rfl⟩
  ·
   refine w_skip (fin_block (fin_nxt (w_region (ck_inv h fun q8 h => ?_))))
   exact oV (v_add rfl rfl q8) (oM rfl (rl_nil (hL2 _ () h _ (join_imp 12 rfl rfl (mod_cons (j := 8) rfl (fun _ _ h => h) mod_nil) (.cons .here .nil)))))
 ·
  refine w_exit (exi_nxt (eL2 _ _ (exi_block (fin_nxt ?_))))
  refine wsr (oA rfl (rnf (w_ret (ret_post (.tmp rfl .nil) (.cons .here .nil) ?_))))
  obtain rfl := Option.some.inj h
  exact ⟨rfl, rfl⟩

theorem value_checker_fields_w0 {value_checker_list_c1' : Val → GChk → GTyp → Int → Option (Bool × GChk)} {value_checker_fits' : GChk → Int → Val → Int → Option (Bool × GChk)} {value_checker_list' : GChk → GTyp → Val → Int → Option (Bool × GChk)} {slices_ContainsFunc_Lapi_Value_api_Value' : (List Val) → GChk → GTyp → Int → Option (Bool × GChk)} {slices_IndexFunc_Lapi_Value_api_Value' : (List Val) → GChk → GTyp → Int → Option (Int × GChk)} {value_checker_fields' : GChk → Int → Val → Int → Option (Bool × GChk)} (h_value_checker_list_c1 : value_checker_list_c1_C value_checker_list_c1') (h_value_checker_fits : value_checker_fits_C value_checker_fits') (h_value_checker_list : value_checker_list_C value_checker_list') (h_slices_ContainsFunc_Lapi_Value_api_Value : slices_ContainsFunc_Lapi_Value_api_Value_C slices_ContainsFunc_Lapi_Value_api_Value') (h_slices_IndexFunc_Lapi_Value_api_Value : slices_IndexFunc_Lapi_Value_api_Value_C slices_IndexFunc_Lapi_Value_api_Value') (h_value_checker_fields : value_checker_fields_C value_checker_fields') : ∀ {a_c : GChk} {a_i : Int} {a_v : Val} {a_depth : Int} {b_a_c : Nat} {r : Bool × GChk}, value_checker_fields_F value_checker_list_c1' value_checker_fits' value_checker_list' slices_ContainsFunc_Lapi_Value_api_Value' slices_IndexFunc_Lapi_Value_api_Value' value_checker_fields' a_c a_i a_v a_depth = some r → Ctr Tryz.prog 88 [ptrv b_a_c (Fld.id GChk), isv (a_i), isv (a_v), isv (a_depth)] [boxE b_a_c (a_c : GChk)] (fun R H => R = oneOf [isv (r.1)] ∧ H = [boxE b_a_c (r.2)]) := by
 intro a_c a_i a_v a_depth b_a_c r h
 unfold value_checker_fields_F at h
 refine spec_intro Tryz.func88 rfl (by decide +kernel) (by rfl) fun w0 S0 hT => ?_
 refine wsr (oT (t_boxIC (y := a_v) rfl (fun _ _ h => h) (oA rfl (rnf (wsr ?_)))))
 refine oM rfl (oV (v_nilCheck rfl) (oV (v_fa rfl GChk.f0 fd103_0) (oV (v_fa rfl GTbd.f0 fd101_0) (oV (v_fa rfl GTab.f3 fd26_3) ?_))))
 refine oT (t_loadC (R := isv (a_c.tabled.t.types)) ty24 rfl .here (fun _ _ h => h) (oM rfl (cal_inv h fun y1 hy1 h => oV (v_ix (l := a_c.tabled.t.types) rfl (fun _ _ h => h) rfl sl24 hy1) (oV (v_loadI ty87 rfl) ?_))))
 refine oT (t_alloc _ ze87 fun b2 => oT (t_storeC (y' := (y1 : GTyp)) ty87 rfl rfl (fun _ _ h => h) .here rfl (rl_upd (upd_imm 9 .here rfl) (rnf (w_seq ?_)))))
 refine wsr (oV (v_loadI ty46 rfl) (cal_inv h fun y3 hy3 h => oT (t_call (value_plain_w hy3) hT (.same rfl (.same rfl .nil)) .nil (fun R H' hR => ?_))))
 obtain ⟨rfl, rfl⟩ := hR
 refine oV (v_not rfl) (oM rfl (rl_j (jb 33) je .nil h 8 rfl (fun q4 g4 h => ?_) (fun J5 h hJ5 => ?_)))
 ·
  refine oM rfl (rl_j (ι := Bool × GChk) (γ := Unit) (fun q7 g7 => [(40, isv (q7.1))]) (fun q7 g7 => [boxE b_a_c (q7.2 : GChk)]) (.cons .here .nil) h 6 rfl (fun q7 g7 h => ?_) (fun J8 h hJ8 => ?_))
  ·
   refine rnf (w_condM h rfl (fun _ h => ?_) (fun _ h => ?_))
   ·
    refine wsr (oA rfl (rnf (w_ret (ret_nxt ?_))))
    refine ret_post (.tmp rfl .nil) (.cons .here .nil) ?_
    obtain rfl := Option.some.inj h
    exact ⟨rfl, rfl⟩
   ·
    refine wkf (w_seq (wsr (oV (v_fi rfl GTyp.f4 fd87_4 rfl (z := y1.fields)) (oV (v_loadI ty85 rfl) ?_))))
    refine oV (v_ln (l := y1.fields) rfl (fun _ _ h => h) sl85) (oM rfl (rnf (w_block (w_lp (ι := Int × GChk) (γ := Unit) (fun q11 g11 => [(44, isv (q11.1))]) (fun q11 g11 => [boxE b_a_c (q11.2 : GChk)]) h () (mod_cons (j := 44) rfl (fun _ _ h => h) mod_nil) (.cons .here .nil) (fun L12 q11 g11 Q57 h hL12 eL12 rL12 => ?_)))))
    refine wsr (oV (v_lss rfl rfl) (rnf (w_seq (w_condM h rfl (fun _ h => ?_) (fun _ h => ?_)))))
    ·
     refine wkf (w_seq (w_J (ι := GChk) (γ := Unit) (fun q35 g35 => []) (fun q35 g35 => [boxE b_a_c (q35 : GChk)]) (.cons .here .nil) h (fun q35 g35 h => ?_) (fun J36 h hJ36 => ?_)))
     ·
      refine w_region (ck_inv h fun q55 h => oV (v_add rfl rfl q55) (oM rfl (rl_nil ?_)))
      exact hL12 _ () h _ (join_imp 4 rfl rfl (mod_cons (j := 44) rfl (fun _ _ h => h) mod_nil) (.cons .here .nil))
     ·
      refine w_block (wsr (oM rfl (cal_inv h fun y37 hy37 h => oV (v_ix (l := y1.fields) rfl (fun _ _ h => h) rfl sl85 hy37) ?_)))
      refine oV (v_loadI ty92 rfl) (oT (t_alloc _ ze92 fun b38 => oA rfl (oT (t_storeC (y' := (y37 : GFld)) ty92 rfl rfl (fun _ _ h => h) .here rfl (rl_upd (upd_imm 11 .here rfl) ?_)))))
      refine rnf (wsr (oV (v_fi rfl Val.f3 fd46_3 rfl (z := a_v.l)) (oV (v_loadI ty43 rfl) (oM rfl ?_))))
      refine cal_inv h fun y39 hy39 h => oV (v_ix (l := a_v.l) rfl (fun _ _ h => h) rfl sl43 hy39) (oV (v_loadI ty46 rfl) (oT (t_alloc _ ze46 fun b40 => oT (t_storeC (y' := (y39 : Val)) ty46 rfl rfl (fun _ _ h => h) .here rfl ?_))))
      refine rl_upd (upd_imm 12 .here rfl) (rnf (w_block (wsr (oV (v_fi rfl Val.f0 fd46_0 rfl (z := y39.kind)) ?_))))
      refine oV (v_loadI ty3 rfl) (oV (v_eql rfl rfl) (oA rfl (rnf (w_condM h rfl (fun _ h => ?_) (fun _ h => ?_)))))
      ·
       refine wsr (oV (v_loadI ty46 rfl) (cal_inv h fun y41 hy41 h => oT (t_call (value_Absent_w hy41) hT (.same rfl .nil) .nil (fun R H' hR => ?_))))
       obtain ⟨rfl, rfl⟩ := hR
       refine oV (v_not rfl) (oM rfl (rl_j (jb 66) je .nil h 5 rfl (fun q42 g42 h => ?_) (fun J43 h hJ43 => ?_)))
       ·
        refine rnf (w_condM h rfl (fun _ h => ?_) (fun _ h => ?_))
        ·
         refine wsr (oA rfl (rnf (w_ret (ret_block ?_))))
         refine ret_block (ret_nxt (rL12 _ (ret_block (ret_nxt ?_))))
         refine ret_post (.tmp rfl .nil) (.cons .here .nil) ?_
         obtain rfl := Option.some.inj h
         exact ⟨rfl, rfl⟩
        ·
         exact w_skip (fin_block (fin_block (hJ36 _ () h _ (join_imp 22 rfl rfl mod_nil (.cons .here .nil)))))
       ·
        refine rl_condM (j := 61) h rfl (fun g44 h => ?_) (fun g44 h => ?_)
        ·
         refine oP 61 rfl rfl g44 (oP 61 rfl rfl g44 (oP 61 rfl rfl g44 (oP 61 rfl rfl g44 (oV (v_pick_t rfl g44 rfl) ?_))))
         exact hJ43 _ () h _ (join_imp 5 rfl rfl (mod_cons (j := 66) rfl (fun _ _ h => h) mod_nil) (.cons .here .nil))
        ·
         refine oK 61 rfl rfl rfl g44 (v_loadI ty87 rfl) (oK 61 rfl rfl rfl g44 (v_move rfl) (cal_inv h fun y45 hy45 h => op_take rfl rfl (dj := 61) rfl g44 (t_call (table_Loose_w hy45) hT (.same rfl (.same rfl .nil)) .nil (fun R H' hR => ?_))))
         obtain ⟨rfl, rfl⟩ := hR
         exact oK 61 rfl rfl rfl g44 (v_not rfl) (oV (v_pick_f rfl g44 rfl) (hJ43 _ () h _ (join_imp 5 rfl rfl (mod_cons (j := 66) rfl (fun _ _ h => h) mod_nil) (.cons .here .nil))))
      ·
       refine wsr (oM rfl (oV (v_fi rfl GFld.f1 fd92_1 rfl (z := y37.ty)) (oV (v_loadI ty3 rfl) (oV (v_loadI ty46 rfl) ?_))))
       refine oM rfl (ck_inv h fun q46 h => oV (v_add rfl rfl q46) (cal_inv h fun y47 hy47 h => oT (t_call (h_value_checker_fits hy47) hT (.same rfl (.same rfl (.same rfl (.same rfl .nil)))) (.cons .here .nil) (fun R H' hR => ?_))))
       obtain ⟨rfl, rfl⟩ := hR
       refine oV (v_not rfl) (oM rfl (rl_j (jb 85) je .nil h 9 rfl (fun q48 g48 h => ?_) (fun J49 h hJ49 => ?_)))
       ·
        refine oA rfl (rnf (w_condM h rfl (fun _ h => ?_) (fun _ h => ?_)))
        ·
         refine wsr (oA rfl (rnf (w_ret (ret_block ?_))))
         refine ret_block (ret_nxt (rL12 _ (ret_block (ret_nxt ?_))))
         refine ret_post (.tmp rfl .nil) (.cons .here .nil) ?_
         obtain rfl := Option.some.inj h
         exact ⟨rfl, rfl⟩
        ·
         exact w_skip (fin_block (fin_block (hJ36 _ () h _ (join_imp 28 rfl rfl mod_nil (.cons .here .nil)))))
       ·
        refine rl_condM (j := 76) h rfl (fun g50 h => ?_) (fun g50 h => ?_)
        ·
         refine oP 76 rfl rfl g50 (oP 76 rfl rfl g50 (oP 76 rfl rfl g50 (op_passU rfl (dj := 79) rfl (op_passU rfl (dj := 79) rfl ?_))))
         exact op_passU rfl (dj := 79) rfl (op_passU rfl (dj := 79) rfl (oP 76 rfl rfl g50 (oV (v_pick_t rfl g50 rfl) (hJ49 _ () h _ (join_imp 9 rfl rfl (mod_cons (j := 85) rfl (fun _ _ h => h) mod_nil) (.cons .here .nil))))))
        ·
         refine oK 76 rfl rfl rfl g50 (v_fi rfl GFld.f3 fd92_3 rfl (z := y37.has)) (oK 76 rfl rfl rfl g50 (v_loadI ty4 rfl) (oK 76 rfl rfl rfl g50 (v_move rfl) (rl_j (jb 84) je .nil h 5 rfl (fun q51 g51 h => ?_) (fun J52 h hJ52 => ?_))))
         ·
          exact oV (v_pick_f rfl g50 rfl) (hJ49 _ () h _ (join_imp 5 rfl rfl (mod_cons (j := 85) rfl (fun _ _ h => h) mod_nil) (.cons .here .nil)))
         ·
          refine rl_condM (j := 79) h rfl (fun g53 h => ?_) (fun g53 h => ?_)
          ·
           refine oK 79 rfl rfl rfl g53 (v_loadI ty46 rfl) (oK 79 rfl rfl rfl g53 (v_fi rfl GFld.f4 fd92_4 rfl (z := y37.dflt)) (oK 79 rfl rfl rfl g53 (v_loadI ty46 rfl) (cal_inv h fun y54 hy54 h => op_take rfl rfl (dj := 79) rfl g53 (t_call (value_Same_w fuel hy54) hT (.same rfl (.same rfl .nil)) .nil (fun R H' hR => ?_)))))
           obtain ⟨rfl, rfl⟩ := hR
           exact oK 76 rfl rfl rfl g50 (v_pick_t rfl g53 rfl) (hJ52 _ () h _ (join_imp 5 rfl rfl (mod_cons (j := 84) rfl (fun _ _ h => h) mod_nil) (.cons .here .nil)))
          ·
           refine oP 79 rfl rfl g53 (oP 79 rfl rfl g53 (oP 79 rfl rfl g53 (oP 79 rfl rfl g53 (oK 76 rfl rfl rfl g50 (v_pick_f rfl g53 rfl) ?_))))
           exact hJ52 _ () h _ (join_imp 5 rfl rfl (mod_cons (j := 84) rfl (fun _ _ h => h) mod_nil) (.cons .here .nil))
    ·
     refine w_exit (exi_nxt (eL12 _ _ (exi_block (fin_nxt ?_))))
     refine wsr (oM rfl (oM rfl (oV (v_loadI ty46 rfl) (cal_inv h fun y56 hy56 h => ?_))))
     refine oT (t_call (value_checker_groups_w hy56) hT (.same rfl (.same rfl (.same rfl .nil))) (.cons .here .nil) (fun R H' hR => ?_))
     obtain ⟨rfl, rfl⟩ := hR
     refine oA rfl (rnf (w_ret (ret_post (.tmp rfl .nil) (.cons .here .nil) ?_)))
     obtain rfl := Option.some.inj h
     exact ⟨rfl, rfl⟩
  ·
   refine rl_condM (j := 34) h rfl (fun g9 h => ?_) (fun g9 h => ?_)
   ·
    refine oP 34 rfl rfl g9 (oP 34 rfl rfl g9 (oP 34 rfl rfl g9 (oP 34 rfl rfl g9 (oP 34 rfl rfl g9 ?_))))
    exact oV (v_pick_t rfl g9 rfl) (hJ8 _ () h _ (join_imp 6 rfl rfl (mod_cons (j := 40) rfl (fun _ _ h => h) mod_nil) (.cons .here .nil)))
   ·
    refine oK 34 rfl rfl rfl g9 (v_move rfl) (oK 34 rfl rfl rfl g9 (v_move rfl) (oK 34 rfl rfl rfl g9 (v_loadI ty46 rfl) (cal_inv h fun y10 hy10 h => op_take rfl rfl (dj := 34) rfl g9 (t_call (value_checker_raws_w hy10) hT (.same rfl (.same rfl (.same rfl .nil))) (.cons .here .nil) (fun R H' hR => ?_)))))
    obtain ⟨rfl, rfl⟩ := hR
    exact oK 34 rfl rfl rfl g9 (v_not rfl) (oV (v_pick_f rfl g9 rfl) (hJ8 _ () h _ (join_imp 6 rfl rfl (mod_cons (j := 40) rfl (fun _ _ h => h) mod_nil) (.cons .here .nil))))
 ·
  refine rl_condM (j := 25) h rfl (fun g6 h => ?_) (fun g6 h => ?_)
  ·
   refine oP 25 rfl rfl g6 (oP 25 rfl rfl g6 (oP 25 rfl rfl g6 (oP 25 rfl rfl g6 (oP 25 rfl rfl g6 ?_))))
   exact oP 25 rfl rfl g6 (oP 25 rfl rfl g6 (oV (v_pick_t rfl g6 rfl) (hJ5 _ () h _ (join_imp 8 rfl rfl (mod_cons (j := 33) rfl (fun _ _ h => h) mod_nil) (.cons .here .nil)))))
  ·
   refine oK 25 rfl rfl rfl g6 (v_fi rfl Val.f3 fd46_3 rfl (z := a_v.l)) (oK 25 rfl rfl rfl g6 (v_loadI ty43 rfl) (oK 25 rfl rfl rfl g6 (v_ln (l := a_v.l) rfl (fun _ _ h => h) sl43) (oK 25 rfl rfl rfl g6 (v_fi rfl GTyp.f4 fd87_4 rfl (z := y1.fields)) (oK 25 rfl rfl rfl g6 (v_loadI ty85 rfl) ?_))))
   exact oK 25 rfl rfl rfl g6 (v_ln (l := y1.fields) rfl (fun _ _ h => h) sl85) (oK 25 rfl rfl rfl g6 (v_neq rfl rfl) (oV (v_pick_f rfl g6 rfl) (hJ5 _ () h _ (join_imp 8 rfl rfl (mod_cons (j := 33) rfl (fun _ _ h => h) mod_nil) (.cons .here .nil)))))

theorem value_checker_list_c1_grp_w : ∀ n, value_checker_list_c1_C (value_checker_list_c1 n) ∧ value_checker_fits_C (value_checker_fits n) ∧ value_checker_list_C (value_checker_list n) ∧ slices_ContainsFunc_Lapi_Value_api_Value_C (slices_ContainsFunc_Lapi_Value_api_Value n) ∧ slices_IndexFunc_Lapi_Value_api_Value_C (slices_IndexFunc_Lapi_Value_api_Value n) ∧ value_checker_fields_C (value_checker_fields n)
 | 0 => ⟨fun h => (by cases h), fun h => (by cases h), fun h => (by cases h), fun h => (by cases h), fun h => (by cases h), fun h => (by cases h)⟩
 | n + 1 => by
  obtain ⟨h0, h1, h2, h3, h4, h5⟩ := value_checker_list_c1_grp_w n
  exact ⟨value_checker_list_c1_w0 h0 h1 h2 h3 h4 h5, value_checker_fits_w0 h0 h1 h2 h3 h4 h5, value_checker_list_w0 h0 h1 h2 h3 h4 h5, slices_ContainsFunc_Lapi_Value_api_Value_w0 h0 h1 h2 h3 h4 h5, slices_IndexFunc_Lapi_Value_api_Value_w0 h0 h1 h2 h3 h4 h5, value_checker_fields_w0 h0 h1 h2 h3 h4 h5⟩
theorem value_checker_fits_w (n : Nat) : value_checker_fits_C (value_checker_fits n) := (value_checker_list_c1_grp_w n).2.1
def value_Count_C (f' : Val → Option (Int)) : Prop :=
 ∀ {a_v : Val} {r : Int}, f' a_v = some r → Ctr Tryz.prog 28 [isv (a_v)] [] (fun R H => R = oneOf [isv (r)] ∧ H = [])
theorem value_Count_w0 {value_Count' : Val → Option (Int)} (h_value_Count : value_Count_C value_Count') : ∀ {a_v : Val} {r : Int}, value_Count_F value_Count' a_v = some r → Ctr Tryz.prog 28 [isv (a_v)] [] (fun R H => R = oneOf [isv (r)] ∧ H = []) := by
 intro a_v r h
 unfold value_Count_F at h
 refine spec_intro Tryz.func28 rfl (by decide +kernel) (by rfl) fun w0 S0 hT => ?_
 refine wsr (oT (t_boxIC (y := a_v) rfl (fun _ _ h => h) (oA rfl (rnf (wsr ?_)))))
 refine oA rfl (rnf (w_seq (wsr (oV (v_fi rfl Val.f3 fd46_3 rfl (z := a_v.l)) ?_))))
 refine oV (v_loadI ty43 rfl) (oV (v_ln (l := a_v.l) rfl (fun _ _ h => h) sl43) (oM rfl (rnf (w_block ?_))))
 refine w_lp (ι := Int × Int) (γ := Unit) (fun q1 g1 => [(3, isv (q1.1)), (9, isv (q1.2))]) (fun q1 g1 => []) h () (mod_cons (j := 3) rfl (fun _ _ h => h) (mod_cons (j := 9) rfl (fun _ _ h => h) mod_nil)) .nil (fun L2 q1 g1 Q13 h hL2 eL2 rL2 => wsr (oV (v_lss rfl rfl) (rnf (w_seq ?_))))
 refine w_condM h rfl (fun _ h => ?_) (fun _ h => ?_)
 ·
  refine wkf (w_seq (w_block (wsr (cal_inv h fun y8 hy8 h => ?_))))
  refine oV (v_ix (l := a_v.l) rfl (fun _ _ h => h) rfl sl43 hy8) (oV (v_loadI ty46 rfl) (oT (t_alloc _ ze46 fun b9 => oT (t_storeC (y' := (y8 : Val)) ty46 rfl rfl (fun _ _ h => h) .here rfl (rl_upd (upd_imm 5 .here rfl) ?_)))))
  refine rnf (w_region (oM rfl (oV (v_loadI ty46 rfl) (cal_inv h fun y10 hy10 h => ?_))))
  refine oT (t_call (h_value_Count hy10) hT (.same rfl .nil) .nil (fun R H' hR => ?_))
  obtain ⟨rfl, rfl⟩ := hR
  refine ck_inv h fun q11 h => oV (v_add rfl rfl q11) (oA rfl (rl_nil (fin_block ?_)))
  refine fin_nxt (w_region (ck_inv h fun q12 h => oV (v_add rfl rfl q12) (oM rfl ?_)))
  exact rl_nil (hL2 _ () h _ (join_imp 14 rfl rfl (mod_cons (j := 3) rfl (fun _ _ h => h) (mod_cons (j := 9) rfl (fun _ _ h => h) mod_nil)) .nil))
 ·
  refine w_exit (exi_nxt (eL2 _ _ (exi_block (fin_nxt ?_))))
  refine wsr (oM rfl (oA rfl (rnf (w_ret ?_))))
  refine ret_post (.tmp rfl .nil) .nil ?_
  obtain rfl := Option.some.inj h
  exact ⟨rfl, rfl⟩

theorem value_Count_grp_w : ∀ n, value_Count_C (value_Count n)
 | 0 => fun h => (by cases h)
 | n + 1 => value_Count_w0 (value_Count_grp_w n)
theorem value_Count_w (n : Nat) : value_Count_C (value_Count n) := (value_Count_grp_w n)

end Go.Proofs.YtnnijoepfgnlfaaGreatDoor


namespace Go.Proofs.YtnnijoepfgnlfaaGreatDoor
open Go.Sy
set_option maxRecDepth 4000
def h_Digits_C (f' : UInt64 → Option (Str)) : Prop :=
 ∀ {a_v : UInt64} {r : Str}, f' a_v = some r → Ctr Tryz.prog 23 [isv (a_v)] [] (fun R H => R = oneOf [isv (r)] ∧ H = [])
theorem h_Digits_w0 {h_Digits' : UInt64 → Option (Str)} (h_h_Digits : h_Digits_C h_Digits') : ∀ {a_v : UInt64} {r : Str}, h_Digits_F h_Digits' a_v = some r → Ctr Tryz.prog 23 [isv (a_v)] [] (fun R H => R = oneOf [isv (r)] ∧ H = []) := by
 intro a_v r h
 unfold h_Digits_F at h
 refine spec_intro Tryz.func23 rfl (by decide +kernel) (by rfl) fun w0 S0 hT => ?_
 refine wsr (oA rfl (rnf (w_seq (wsr ?_))))
 refine oM rfl (oV (v_lss64 rfl rfl) (rnf (w_condM h rfl (fun _ h => ?_) (fun _ h => ?_))))
 ·
  refine wsr (oM rfl (oV (v_add64 rfl rfl) (oV (v_u64u8 Tryz.underlying41 Tryz.underlying5 rfl) (oT (t_buildSlice (l := ([((48 : UInt64) + a_v).toUInt8] : (List UInt8))) el42 (.cons rfl (fun _ _ h => h) .nil) rfl rfl ?_)))))
  refine oV (v_bs (l := ([((48 : UInt64) + a_v).toUInt8] : (List UInt8))) Tryz.underlying42 Tryz.underlying5 Tryz.underlying9 rfl appv_isv) (oA rfl (rnf (w_ret (ret_nxt ?_))))
  refine ret_post (.tmp rfl .nil) .nil ?_
  obtain rfl := Option.some.inj h
  exact ⟨rfl, rfl⟩
 ·
  refine wkf (w_seq (w_J (ι := Str) (γ := Unit) (fun q2 g2 => [(2, isv (q2))]) (fun q2 g2 => []) .nil h (fun q2 g2 h => ?_) (fun J3 h hJ3 => ?_)))
  ·
   refine w_ret (ret_post (.tmp rfl .nil) .nil ?_)
   obtain rfl := Option.some.inj h
   exact ⟨rfl, rfl⟩
  ·
   refine w_regionD (.v 0 (.v 1 (.v 3 (.v 4 (.v 5 (.v 6 (.alt 2 (.t 7 (.v 8 (.v 9 (.v 10 .nil)))) (.t 7 (.v 8 (.t 2 (.v 9 (.v 10 .nil)))))))))))) moOrd (by kernel_rfl) ?_
   refine rvm rfl rfl (asr_inv h fun q4 h => rd_v rfl (v_quo64 rfl rfl q4) (rvm rfl rfl (asr_inv h fun q5 h => ?_)))
   refine rd_v rfl (v_rem64 rfl rfl q5) (rd_v rfl (v_add64 rfl rfl) (rd_v rfl (v_u64u8 Tryz.underlying41 Tryz.underlying5 rfl) (cal_inv h fun y6 hy6 h => asr_inv h fun q8 h => ?_)))
   refine rd_two ?_ ?_
   ·
    refine rd_t rfl rfl (t_call (h_h_Digits hy6) hT (.same rfl .nil) .nil (fun R H' hR => ?_))
    obtain ⟨rfl, rfl⟩ := hR
    refine rd_t rfl rfl (t_buildSlice (l := ([((48 : UInt64) + (a_v % (10 : UInt64))).toUInt8] : (List UInt8))) el42 (.cons rfl (fun _ _ h => h) .nil) rfl rfl (rd_v rfl (v_bs (l := ([((48 : UInt64) + (a_v % (10 : UInt64))).toUInt8] : (List UInt8))) Tryz.underlying42 Tryz.underlying5 Tryz.underlying9 rfl appv_isv) (rd_v rfl (v_cat rfl rfl q8) (rd_v rfl (v_assign rfl) (rd_nil ?_)))))
    exact hJ3 _ () h _ (ji 11 2 rfl rfl rfl)
   ·
    refine rd_t rfl rfl (t_buildSlice (l := ([((48 : UInt64) + (a_v % (10 : UInt64))).toUInt8] : (List UInt8))) el42 (.cons rfl (fun _ _ h => h) .nil) rfl rfl (rd_v rfl (v_bs (l := ([((48 : UInt64) + (a_v % (10 : UInt64))).toUInt8] : (List UInt8))) Tryz.underlying42 Tryz.underlying5 Tryz.underlying9 rfl appv_isv) (rd_t rfl rfl (t_call (h_h_Digits hy6) hT (.same rfl .nil) .nil (fun R H' hR => ?_)))))
    obtain ⟨rfl, rfl⟩ := hR
    exact rd_v rfl (v_cat rfl rfl q8) (rd_v rfl (v_assign rfl) (rd_nil (hJ3 _ () h _ (ji 11 2 rfl rfl rfl))))

theorem h_Digits_grp_w : ∀ n, h_Digits_C (h_Digits n)
 | 0 => fun h => (by cases h)
 | n + 1 => h_Digits_w0 (h_Digits_grp_w n)
theorem h_Digits_w (n : Nat) : h_Digits_C (h_Digits n) := (h_Digits_grp_w n)
end Go.Proofs.YtnnijoepfgnlfaaGreatDoor


namespace Go.Proofs.YtnnijoepfgnlfaaGreatDoor
open Go.Sy
set_option maxRecDepth 4000
theorem slices_Clone_Lbyte_byte_w : ∀ {a_s : (List UInt8)} {r : (List UInt8)}, slices_Clone_Lbyte_byte a_s = some r → Ctr Tryz.prog 57 [isv (a_s)] [] (fun R H => R = oneOf [isv (r)] ∧ H = []) := by
 intro a_s r h
 unfold slices_Clone_Lbyte_byte at h
 refine spec_intro Tryz.func57 rfl (by decide +kernel) (by rfl) fun w0 S0 hT => ?_
 refine wsr (oA rfl (rnf (w_seq (wsr ?_))))
 refine oM rfl (oV (v_eqnil (l := a_s) sl42 rfl rfl) (rnf (w_condQ h rfl (fun hn => by rw [hn]; rfl) (fun _ h => ?_) (fun h => ?_))))
 ·
  refine wsr (oA rfl (rnf (w_ret (ret_nxt ?_))))
  refine ret_post (.as rfl (nilv_isv (α := UInt8)) .nil) .nil ?_
  obtain rfl := Option.some.inj h
  exact ⟨rfl, rfl⟩
 ·
  refine wkf (wsr (oT (t_buildSlice (l := ([] : (List UInt8))) el42 .nil rfl rfl (oM rfl (rl_upd (upd_tok) ?_)))))
  refine asr_inv h fun q3 h => oT (t_appC (l := ([] : (List UInt8))) (m := a_s) ap42_42 rfl (fun _ _ h => h) rfl (fun _ _ h => h) .here q3 fun t2 => oA rfl (rnf (w_ret ?_)))
  refine ret_post (.as rfl appv_isv .nil) .nil ?_
  obtain rfl := Option.some.inj h
  exact ⟨rfl, rfl⟩


def value_Strip_C (f' : Val → Option (Val)) : Prop :=
 ∀ {a_v : Val} {r : Val}, f' a_v = some r → Ctr Tryz.prog 31 [isv (a_v)] [] (fun R H => R = oneOf [isv (r)] ∧ H = [])
theorem value_Strip_w0 {value_Strip' : Val → Option (Val)} (h_value_Strip : value_Strip_C value_Strip') : ∀ {a_v : Val} {r : Val}, value_Strip_F value_Strip' a_v = some r → Ctr Tryz.prog 31 [isv (a_v)] [] (fun R H => R = oneOf [isv (r)] ∧ H = []) := by
 intro a_v r h
 unfold value_Strip_F at h
 refine spec_intro Tryz.func31 rfl (by decide +kernel) (by rfl) fun w0 S0 hT => ?_
 refine wsr (oT (t_boxIC (y := a_v) rfl (fun _ _ h => h) (oT (t_alloc _ ze46 fun b1 => rnf (w_seq ?_)))))
 refine wsr (oV (v_fi rfl Val.f0 fd46_0 rfl (z := a_v.kind)) (oV (v_loadI ty3 rfl) (oV (v_eql rfl rfl) (rnf ?_))))
 refine w_condM h rfl (fun _ h => ?_) (fun _ h => ?_)
 ·
  refine wsr (oV (v_build (z := (Val.mk (12 : Int) (0 : Int) ([] : (List UInt8)) ([] : (List Val)) (0 : Int) ([] : (List Raw)))) rfl bu46 ze46 (.cons Val.f0 fd46_0 rfl (fun _ _ h => h) .nil)) (oT (t_storeC (y' := ((Val.mk (12 : Int) (0 : Int) ([] : (List UInt8)) ([] : (List Val)) (0 : Int) ([] : (List Raw))) : Val)) ty46 rfl rfl (fun _ _ h => h) .here rfl (rnf (w_ret ?_)))))
  refine ret_nxt (ret_post (.cell rfl .here ty46 .nil) .nil ?_)
  obtain rfl := Option.some.inj h
  exact ⟨rfl, rfl⟩
 ·
  refine wkf (w_seq (w_J (ι := Val) (γ := Nat × Tok) (fun q2 g2 => [(3, ptrv g2.1 (Fld.id (Int × Int × (List UInt8) × (TList Val) × Int × (List Raw))))]) (fun q2 g2 => [boxE g2.1 ((q2.kind, q2.n, q2.b, (TList.mk g2.2 q2.l), q2.rule, q2.more) : (Int × Int × (List UInt8) × (TList Val) × Int × (List Raw))), tokE g2.2]) .nil h (fun q2 g2 h => ?_) (fun J3 h hJ3 => ?_)))
  ·
   refine w_seq (wsr (oV (v_fi rfl Val.f3 fd46_3 rfl (z := a_v.l)) (oV (v_loadI ty43 rfl) (oV (v_ln (l := a_v.l) rfl (fun _ _ h => h) sl43) ?_))))
   refine oM rfl (rnf (w_block (w_lp (ι := Int × Val) (γ := Tok) (fun q11 g11 => [(21, isv (q11.1))]) (fun q11 g11 => [boxE g2.1 ((q11.2.kind, q11.2.n, q11.2.b, (TList.mk g11 q11.2.l), q11.2.rule, q11.2.more) : (Int × Int × (List UInt8) × (TList Val) × Int × (List Raw))), tokE g11]) h (g2.2) (mod_cons (j := 21) rfl (fun _ _ h => h) mod_nil) (.cons .here (.cons .here .nil)) (fun L12 q11 g11 Q35 h hL12 eL12 rL12 => wsr ?_))))
   refine oV (v_lss rfl rfl) (rnf (w_seq (w_condM h rfl (fun _ h => ?_) (fun _ h => ?_))))
   ·
    refine wkf (w_seq (w_block (wsr (cal_inv h fun y24 hy24 h => ?_))))
    refine oV (v_ix (l := a_v.l) rfl (fun _ _ h => h) rfl sl43 hy24) (oV (v_loadI ty46 rfl) (oT (t_alloc _ ze46 fun b25 => oT (t_storeC (y' := (y24 : Val)) ty46 rfl rfl (fun _ _ h => h) .here rfl (rl_upd (upd_imm 5 .here rfl) ?_)))))
    refine rnf (w_regionD (.v 0 (.v 2 (.alt 1 (.t 3 (.t 4 (.t 5 (.v 6 (.t 7 .nil))))) (.t 3 (.alt 1 (.t 4 (.t 5 (.v 6 (.t 7 .nil)))) (.t 4 (.t 1 (.t 5 (.v 6 (.t 7 .nil)))))))))) moOrd (by kernel_rfl) ?_)
    refine rd_v rfl (v_fa rfl pt46_0_3 fd46_3) (rd_v rfl (v_loadI ty46 rfl) (cal_inv h fun y26 hy26 h => asr_inv h fun q29 h => ck_inv h fun q30 h => ?_))
    refine rd_two ?_ ?_
    ·
     refine rd_t rfl rfl (t_loadC (R := appv g11 (q11.2.l)) ty43 rfl .here isvT1 (rd_t rfl rfl (t_call (h_value_Strip hy26) hT (.same rfl .nil) .nil (fun R H' hR => ?_))))
     obtain ⟨rfl, rfl⟩ := hR
     refine rd_t rfl rfl (t_buildSlice (l := ([y26] : (List Val))) el43 (.cons rfl (fun _ _ h => h) .nil) rfl rfl (rd_t rfl rfl (t_appC (l := q11.2.l) (m := ([y26] : (List Val))) ap43_43 rfl (fun _ _ h => h) rfl appv_isv (.there .here) q29 fun t28 => rd_v rfl (v_fa rfl pt46_0_3 fd46_3) (rd_t rfl rfl (t_storeC (y' := ((q11.2.kind, q11.2.n, q11.2.b, (TList.mk t28 (q11.2.l ++ ([y26] : (List Val)))), q11.2.rule, q11.2.more) : (Int × Int × (List UInt8) × (TList Val) × Int × (List Raw)))) ty43 rfl rfl isvT2 (.there .here) rfl (rd_nil ?_))))))
     refine fin_block (fin_nxt (w_region (oV (v_add rfl rfl q30) (oM rfl ?_))))
     exact rl_nil (hL12 _ (t28) h _ (join_imp 15 rfl rfl (mod_cons (j := 21) rfl (fun _ _ h => h) mod_nil) (.cons .here (.cons .here (.cons .here .nil)))))
    ·
     refine rd_t rfl rfl (t_call (h_value_Strip hy26) hT (.same rfl .nil) .nil (fun R H' hR => ?_))
     obtain ⟨rfl, rfl⟩ := hR
     refine rd_two ?_ ?_
     ·
      refine rd_t rfl rfl (t_loadC (R := appv g11 (q11.2.l)) ty43 rfl .here isvT1 (rd_t rfl rfl (t_buildSlice (l := ([y26] : (List Val))) el43 (.cons rfl (fun _ _ h => h) .nil) rfl rfl (rd_t rfl rfl (t_appC (l := q11.2.l) (m := ([y26] : (List Val))) ap43_43 rfl (fun _ _ h => h) rfl appv_isv (.there .here) q29 fun t32 => rd_v rfl (v_fa rfl pt46_0_3 fd46_3) (rd_t rfl rfl (t_storeC (y' := ((q11.2.kind, q11.2.n, q11.2.b, (TList.mk t32 (q11.2.l ++ ([y26] : (List Val)))), q11.2.rule, q11.2.more) : (Int × Int × (List UInt8) × (TList Val) × Int × (List Raw)))) ty43 rfl rfl isvT2 (.there .here) rfl ?_)))))))
      refine rd_nil (fin_block (fin_nxt (w_region (oV (v_add rfl rfl q30) ?_))))
      exact oM rfl (rl_nil (hL12 _ (t32) h _ (join_imp 15 rfl rfl (mod_cons (j := 21) rfl (fun _ _ h => h) mod_nil) (.cons .here (.cons .here (.cons .here .nil))))))
     ·
      refine rd_t rfl rfl (t_buildSlice (l := ([y26] : (List Val))) el43 (.cons rfl (fun _ _ h => h) .nil) rfl rfl (rd_t rfl rfl (t_loadC (R := appv g11 (q11.2.l)) ty43 rfl .here isvT1 (rd_t rfl rfl (t_appC (l := q11.2.l) (m := ([y26] : (List Val))) ap43_43 rfl (fun _ _ h => h) rfl appv_isv (.there .here) q29 fun t34 => rd_v rfl (v_fa rfl pt46_0_3 fd46_3) (rd_t rfl rfl (t_storeC (y' := ((q11.2.kind, q11.2.n, q11.2.b, (TList.mk t34 (q11.2.l ++ ([y26] : (List Val)))), q11.2.rule, q11.2.more) : (Int × Int × (List UInt8) × (TList Val) × Int × (List Raw)))) ty43 rfl rfl isvT2 (.there .here) rfl ?_)))))))
      refine rd_nil (fin_block (fin_nxt (w_region (oV (v_add rfl rfl q30) ?_))))
      exact oM rfl (rl_nil (hL12 _ (t34) h _ (join_imp 15 rfl rfl (mod_cons (j := 21) rfl (fun _ _ h => h) mod_nil) (.cons .here (.cons .here (.cons .here .nil))))))
   ·
    refine w_exit (exi_nxt (eL12 _ _ (exi_block (fin_nxt ?_))))
    refine wsr (oT (t_loadC (y := ((q11.2.kind, q11.2.n, q11.2.b, (TList.mk g11 q11.2.l), q11.2.rule, q11.2.more) : (Int × Int × (List UInt8) × (TList Val) × Int × (List Raw)))) (R := isv (((q11.2.kind, q11.2.n, q11.2.b, (TList.mk g11 q11.2.l), q11.2.rule, q11.2.more)) : ((Int × Int × (List UInt8) × (TList Val) × Int × (List Raw))))) ty46 rfl .here (by exact (fun _ _ h => h)) ?_))
    refine rl_upd (upd_slot (R' := isv (q11.2)) 33 rfl (Cv.isv rfl fun S => (fun cs h => Cv.val cs (((Cv.pair Cv.id (Cv.pair Cv.id (Cv.pair Cv.id (Cv.pair Cv.tl (Cv.pair Cv.id Cv.id))))) : Cv S ((q11.2.kind, q11.2.n, q11.2.b, (TList.mk g11 q11.2.l), q11.2.rule, q11.2.more) : (Int × Int × (List UInt8) × (TList Val) × Int × (List Raw))) (Val.to q11.2)) cs h)))) (oT (t_storeC (y' := (q11.2 : Val)) ty46 rfl rfl (fun _ _ h => h) (.there (.there .here)) rfl (rnf (w_ret (ret_post (.cell rfl .here ty46 .nil) .nil ?_)))))
    obtain rfl := Option.some.inj h
    exact ⟨rfl, rfl⟩
  ·
   refine w_regionD (.v 0 (.v 1 (.v 2 (.v 3 (.v 4 (.v 5 (.alt 6 (.v 7 (.t 8 (.t 9 .nil))) (.t 8 (.t 6 (.v 7 (.t 9 .nil))))))))))) moOrd (by kernel_rfl) ?_
   refine rd_v rfl (v_fi rfl Val.f0 fd46_0 rfl (z := a_v.kind)) (rd_v rfl (v_loadI ty3 rfl) (rd_v rfl (v_fi rfl Val.f1 fd46_1 rfl (z := a_v.n)) (rd_v rfl (v_loadI ty2 rfl) (rd_v rfl (v_fi rfl Val.f2 fd46_2 rfl (z := a_v.b)) ?_))))
   refine rd_v rfl (v_loadI ty42 rfl) (cal_inv h fun y4 hy4 h => rd_two ?_ ?_)
   ·
    refine rd_t rfl rfl (t_call (slices_Clone_Lbyte_byte_w hy4) hT (.same rfl .nil) .nil (fun R H' hR => ?_))
    obtain ⟨rfl, rfl⟩ := hR
    refine rd_v rfl (v_build (z := ((a_v.kind, a_v.n, y4, (TList.mk none ([] : (List Val))), (0 : Int), ([] : (List Raw))) : (Int × Int × (List UInt8) × (TList Val) × Int × (List Raw)))) rfl bu46 zt46_5 (.cons pt46_0_0 fd46_0 rfl (fun _ _ h => h) (.cons pt46_0_1 fd46_1 rfl (fun _ _ h => h) (.cons pt46_0_2 fd46_2 rfl (fun _ _ h => h) .nil)))) (rd_t rfl rfl (t_alloc _ zt46_5 fun b5 => rd_upd (upd_tok) (rd_upd (upd_tok) (rd_t rfl rfl (t_storeC (y' := ((a_v.kind, a_v.n, y4, (TList.mk none ([] : (List Val))), (0 : Int), ([] : (List Raw))) : (Int × Int × (List UInt8) × (TList Val) × Int × (List Raw)))) ty46 rfl rfl (fun _ _ h => h) (.there (.there .here)) rfl ?_)))))
    exact rd_nil (hJ3 _ (b5, none) h _ (join_imp 9 rfl rfl (mod_cons (j := 3) rfl (fun _ _ h => h) mod_nil) (.cons .here (.cons .here (.cons (.there .here) .nil)))))
   ·
    refine rd_t rfl rfl (t_alloc _ zt46_5 fun b8 => rd_upd (upd_tok) (rd_t rfl rfl (t_call (slices_Clone_Lbyte_byte_w hy4) hT (.same rfl .nil) .nil (fun R H' hR => ?_))))
    obtain ⟨rfl, rfl⟩ := hR
    refine rd_v rfl (v_build (z := ((a_v.kind, a_v.n, y4, (TList.mk none ([] : (List Val))), (0 : Int), ([] : (List Raw))) : (Int × Int × (List UInt8) × (TList Val) × Int × (List Raw)))) rfl bu46 zt46_5 (.cons pt46_0_0 fd46_0 rfl (fun _ _ h => h) (.cons pt46_0_1 fd46_1 rfl (fun _ _ h => h) (.cons pt46_0_2 fd46_2 rfl (fun _ _ h => h) .nil)))) (rd_upd (upd_tok) (rd_t rfl rfl (t_storeC (y' := ((a_v.kind, a_v.n, y4, (TList.mk none ([] : (List Val))), (0 : Int), ([] : (List Raw))) : (Int × Int × (List UInt8) × (TList Val) × Int × (List Raw)))) ty46 rfl rfl (fun _ _ h => h) (.there (.there .here)) rfl (rd_nil ?_))))
    exact hJ3 _ (b8, none) h _ (join_imp 9 rfl rfl (mod_cons (j := 3) rfl (fun _ _ h => h) mod_nil) (.cons .here (.cons .here (.cons (.there .here) .nil))))

theorem value_Strip_grp_w : ∀ n, value_Strip_C (value_Strip n)
 | 0 => fun h => (by cases h)
 | n + 1 => value_Strip_w0 (value_Strip_grp_w n)
theorem value_Strip_w (n : Nat) : value_Strip_C (value_Strip n) := (value_Strip_grp_w n)

theorem h_Bytes_w : ∀ {a_a : (List UInt8)} {a_b : (List UInt8)} {r : Bool}, h_Bytes a_a a_b = some r → Ctr Tryz.prog 58 [isv (a_a), isv (a_b)] [] (fun R H => R = oneOf [isv (r)] ∧ H = []) := by
 intro a_a a_b r h
 unfold h_Bytes at h
 refine spec_intro Tryz.func58 rfl (by decide +kernel) (by rfl) fun w0 S0 hT => ?_
 refine wsr (oA rfl (rnf (wsr (oM rfl ?_))))
 refine oV (v_bs (l := a_a) Tryz.underlying42 Tryz.underlying5 Tryz.underlying9 rfl (fun _ _ h => h)) (oM rfl (oV (v_bs (l := a_b) Tryz.underlying42 Tryz.underlying5 Tryz.underlying9 rfl (fun _ _ h => h)) (oV (v_eqA eq9 rfl rfl) (oA rfl ?_))))
 refine rnf (w_ret (ret_post (.tmp rfl .nil) .nil ?_))
 obtain rfl := Option.some.inj h
 exact ⟨rfl, rfl⟩


theorem h_Raw_w : ∀ {a_a : Raw} {a_b : Raw} {r : Bool}, h_Raw a_a a_b = some r → Ctr Tryz.prog 61 [isv (a_a), isv (a_b)] [] (fun R H => R = oneOf [isv (r)] ∧ H = []) := by
 intro a_a a_b r h
 unfold h_Raw at h
 refine spec_intro Tryz.func61 rfl (by decide +kernel) (by rfl) fun w0 S0 hT => ?_
 refine wsr (oT (t_boxIC (y := a_a) rfl (fun _ _ h => h) (oT (t_boxIC (y := a_b) rfl (fun _ _ h => h) (oA rfl (rnf ?_))))))
 refine wsr (oV (v_fi rfl Raw.f0 fd112_0 rfl (z := a_a.n)) (oV (v_loadI ty3 rfl) (oV (v_fi rfl Raw.f0 fd112_0 rfl (z := a_b.n)) (oV (v_loadI ty3 rfl) ?_))))
 refine oV (v_eql rfl rfl) (oM rfl (rl_j (jb 16) je .nil h 6 rfl (fun q1 g1 h => ?_) (fun J2 h hJ2 => ?_)))
 ·
  refine oA rfl (rnf (w_ret (ret_post (.tmp rfl .nil) .nil ?_)))
  obtain rfl := Option.some.inj h
  exact ⟨rfl, rfl⟩
 ·
  refine rl_condM (j := 10) h rfl (fun g3 h => ?_) (fun g3 h => ?_)
  ·
   refine oK 10 rfl rfl rfl g3 (v_fi rfl Raw.f1 fd112_1 rfl (z := a_a.b)) (oK 10 rfl rfl rfl g3 (v_loadI ty42 rfl) (oK 10 rfl rfl rfl g3 (v_fi rfl Raw.f1 fd112_1 rfl (z := a_b.b)) (oK 10 rfl rfl rfl g3 (v_loadI ty42 rfl) (cal_inv h fun y4 hy4 h => ?_))))
   refine op_take rfl rfl (dj := 10) rfl g3 (t_call (h_Bytes_w hy4) hT (.same rfl (.same rfl .nil)) .nil (fun R H' hR => ?_))
   obtain ⟨rfl, rfl⟩ := hR
   exact oV (v_pick_t rfl g3 rfl) (hJ2 _ () h _ (ji 6 16 rfl rfl rfl))
  ·
   refine oP 10 rfl rfl g3 (oP 10 rfl rfl g3 (oP 10 rfl rfl g3 (oP 10 rfl rfl g3 (oP 10 rfl rfl g3 ?_))))
   exact oV (v_pick_f rfl g3 rfl) (hJ2 _ () h _ (ji 6 16 rfl rfl rfl))


theorem h_Same_api_Raw_w : ∀ {a_a : (List Raw)} {a_b : (List Raw)} {r : Bool}, h_Same_api_Raw a_a a_b = some r → Ctr Tryz.prog 60 [isv (a_a), isv (a_b), clov 61 []] [] (fun R H => R = oneOf [isv (r)] ∧ H = []) := by
 intro a_a a_b r h
 unfold h_Same_api_Raw at h
 refine spec_intro Tryz.func60 rfl (by decide +kernel) (by rfl) fun w0 S0 hT => ?_
 refine wsr (oA rfl (rnf (w_seq (wsr ?_))))
 refine oM rfl (oV (v_ln (l := a_a) rfl (fun _ _ h => h) sl44) (oM rfl (oV (v_ln (l := a_b) rfl (fun _ _ h => h) sl44) (oV (v_neq rfl rfl) ?_))))
 refine rnf (w_condM h rfl (fun _ h => ?_) (fun _ h => ?_))
 ·
  refine wsr (oA rfl (rnf (w_ret (ret_nxt ?_))))
  refine ret_post (.tmp rfl .nil) .nil ?_
  obtain rfl := Option.some.inj h
  exact ⟨rfl, rfl⟩
 ·
  refine wkf (w_seq (wsr (oA rfl (rnf ?_))))
  refine w_block (w_lp (ι := Int) (γ := Unit) (fun q1 g1 => [(7, isv (q1))]) (fun q1 g1 => []) h () (mod_cons (j := 7) rfl (fun _ _ h => h) mod_nil) .nil (fun L2 q1 g1 Q11 h hL2 eL2 rL2 => w_seq (wsr (oM rfl ?_))))
  refine oM rfl (oV (v_ln (l := a_a) rfl (fun _ _ h => h) sl44) (oV (v_lss rfl rfl) (rnf (w_condM h rfl (fun _ h => ?_) (fun _ h => ?_)))))
  ·
   refine wkf (w_seq (w_block (w_seq (w_regionD (.v 0 (.v 1 (.v 2 (.v 3 (.v 4 (.v 5 (.v 6 (.v 7 (.v 8 (.t 9 (.v 10 .nil))))))))))) moOrd (by kernel_rfl) ?_))))
   refine rvm rfl rfl (rvm rfl rfl (rvm rfl rfl (cal_inv h fun y7 hy7 h => rd_v rfl (v_ix (l := a_a) rfl (fun _ _ h => h) rfl sl44 hy7) ?_)))
   refine rd_v rfl (v_loadI ty112 rfl) (rvm rfl rfl (rvm rfl rfl (cal_inv h fun y8 hy8 h => rd_v rfl (v_ix (l := a_b) rfl (fun _ _ h => h) rfl sl44 hy8) ?_)))
   refine rd_v rfl (v_loadI ty112 rfl) (cal_inv h fun y9 hy9 h => rd_t rfl rfl (t_callC rfl (.same rfl (.same rfl .nil)) (h_Raw_w hy9) hT .nil (fun R H' hR => ?_)))
   obtain ⟨rfl, rfl⟩ := hR
   refine rd_v rfl (v_not rfl) (rd_nil (fin_nxt (w_condM h rfl (fun _ h => ?_) (fun _ h => ?_))))
   ·
    refine wsr (oA rfl (rnf (w_ret (ret_block ?_))))
    refine ret_nxt (rL2 _ (ret_block (ret_nxt (ret_post (.tmp rfl .nil) .nil ?_))))
    obtain rfl := Option.some.inj h
    exact ⟨rfl, rfl⟩
   ·
    refine w_skip (fin_block (fin_nxt (w_region (oM rfl ?_))))
    exact ck_inv h fun q10 h => oV (v_add rfl rfl q10) (oA rfl (rl_nil (hL2 _ () h _ (ji 19 7 rfl rfl rfl))))
  ·
   refine w_exit (exi_nxt (eL2 _ _ (exi_block (fin_nxt ?_))))
   refine wsr (oA rfl (rnf (w_ret (ret_post (.tmp rfl .nil) .nil ?_))))
   obtain rfl := Option.some.inj h
   exact ⟨rfl, rfl⟩


def h_Same_api_Value_C (f' : (List Val) → (List Val) → Option (Bool)) : Prop :=
 ∀ {a_a : (List Val)} {a_b : (List Val)} {r : Bool}, f' a_a a_b = some r → Ctr Tryz.prog 59 [isv (a_a), isv (a_b), clov 32 []] [] (fun R H => R = oneOf [isv (r)] ∧ H = [])
def h_Value_C (f' : Val → Val → Option (Bool)) : Prop :=
 ∀ {a_a : Val} {a_b : Val} {r : Bool}, f' a_a a_b = some r → Ctr Tryz.prog 32 [isv (a_a), isv (a_b)] [] (fun R H => R = oneOf [isv (r)] ∧ H = [])
theorem h_Same_api_Value_w0 {h_Same_api_Value' : (List Val) → (List Val) → Option (Bool)} {h_Value' : Val → Val → Option (Bool)} (h_h_Same_api_Value : h_Same_api_Value_C h_Same_api_Value') (h_h_Value : h_Value_C h_Value') : ∀ {a_a : (List Val)} {a_b : (List Val)} {r : Bool}, h_Same_api_Value_F h_Same_api_Value' h_Value' a_a a_b = some r → Ctr Tryz.prog 59 [isv (a_a), isv (a_b), clov 32 []] [] (fun R H => R = oneOf [isv (r)] ∧ H = []) := by
 intro a_a a_b r h
 unfold h_Same_api_Value_F at h
 refine spec_intro Tryz.func59 rfl (by decide +kernel) (by rfl) fun w0 S0 hT => ?_
 refine wsr (oA rfl (rnf (w_seq (wsr ?_))))
 refine oM rfl (oV (v_ln (l := a_a) rfl (fun _ _ h => h) sl43) (oM rfl (oV (v_ln (l := a_b) rfl (fun _ _ h => h) sl43) (oV (v_neq rfl rfl) ?_))))
 refine rnf (w_condM h rfl (fun _ h => ?_) (fun _ h => ?_))
 ·
  refine wsr (oA rfl (rnf (w_ret (ret_nxt ?_))))
  refine ret_post (.tmp rfl .nil) .nil ?_
  obtain rfl := Option.some.inj h
  exact ⟨rfl, rfl⟩
 ·
  refine wkf (w_seq (wsr (oA rfl (rnf ?_))))
  refine w_block (w_lp (ι := Int) (γ := Unit) (fun q1 g1 => [(7, isv (q1))]) (fun q1 g1 => []) h () (mod_cons (j := 7) rfl (fun _ _ h => h) mod_nil) .nil (fun L2 q1 g1 Q11 h hL2 eL2 rL2 => w_seq (wsr (oM rfl ?_))))
  refine oM rfl (oV (v_ln (l := a_a) rfl (fun _ _ h => h) sl43) (oV (v_lss rfl rfl) (rnf (w_condM h rfl (fun _ h => ?_) (fun _ h => ?_)))))
  ·
   refine wkf (w_seq (w_block (w_seq (w_regionD (.v 0 (.v 1 (.v 2 (.v 3 (.v 4 (.v 5 (.v 6 (.v 7 (.v 8 (.t 9 (.v 10 .nil))))))))))) moOrd (by kernel_rfl) ?_))))
   refine rvm rfl rfl (rvm rfl rfl (rvm rfl rfl (cal_inv h fun y7 hy7 h => rd_v rfl (v_ix (l := a_a) rfl (fun _ _ h => h) rfl sl43 hy7) ?_)))
   refine rd_v rfl (v_loadI ty46 rfl) (rvm rfl rfl (rvm rfl rfl (cal_inv h fun y8 hy8 h => rd_v rfl (v_ix (l := a_b) rfl (fun _ _ h => h) rfl sl43 hy8) ?_)))
   refine rd_v rfl (v_loadI ty46 rfl) (cal_inv h fun y9 hy9 h => rd_t rfl rfl (t_callC rfl (.same rfl (.same rfl .nil)) (h_h_Value hy9) hT .nil (fun R H' hR => ?_)))
   obtain ⟨rfl, rfl⟩ := hR
   refine rd_v rfl (v_not rfl) (rd_nil (fin_nxt (w_condM h rfl (fun _ h => ?_) (fun _ h => ?_))))
   ·
    refine wsr (oA rfl (rnf (w_ret (ret_block ?_))))
    refine ret_nxt (rL2 _ (ret_block (ret_nxt (ret_post (.tmp rfl .nil) .nil ?_))))
    obtain rfl := Option.some.inj h
    exact ⟨rfl, rfl⟩
   ·
    refine w_skip (fin_block (fin_nxt (w_region (oM rfl ?_))))
    exact ck_inv h fun q10 h => oV (v_add rfl rfl q10) (oA rfl (rl_nil (hL2 _ () h _ (ji 19 7 rfl rfl rfl))))
  ·
   refine w_exit (exi_nxt (eL2 _ _ (exi_block (fin_nxt ?_))))
   refine wsr (oA rfl (rnf (w_ret (ret_post (.tmp rfl .nil) .nil ?_))))
   obtain rfl := Option.some.inj h
   exact ⟨rfl, rfl⟩

theorem h_Value_w0 {h_Same_api_Value' : (List Val) → (List Val) → Option (Bool)} {h_Value' : Val → Val → Option (Bool)} (h_h_Same_api_Value : h_Same_api_Value_C h_Same_api_Value') (h_h_Value : h_Value_C h_Value') : ∀ {a_a : Val} {a_b : Val} {r : Bool}, h_Value_F h_Same_api_Value' h_Value' a_a a_b = some r → Ctr Tryz.prog 32 [isv (a_a), isv (a_b)] [] (fun R H => R = oneOf [isv (r)] ∧ H = []) := by
 intro a_a a_b r h
 unfold h_Value_F at h
 refine spec_intro Tryz.func32 rfl (by decide +kernel) (by rfl) fun w0 S0 hT => ?_
 refine wsr (oT (t_boxIC (y := a_a) rfl (fun _ _ h => h) (oT (t_boxIC (y := a_b) rfl (fun _ _ h => h) (oA rfl (rnf ?_))))))
 refine wsr (oV (v_fi rfl Val.f0 fd46_0 rfl (z := a_a.kind)) (oV (v_loadI ty3 rfl) (oV (v_fi rfl Val.f0 fd46_0 rfl (z := a_b.kind)) (oV (v_loadI ty3 rfl) ?_))))
 refine oV (v_eql rfl rfl) (oM rfl (rl_j (jb 16) je .nil h 6 rfl (fun q1 g1 h => ?_) (fun J2 h hJ2 => ?_)))
 ·
  refine oM rfl (rl_j (jb 23) je .nil h 6 rfl (fun q4 g4 h => ?_) (fun J5 h hJ5 => ?_))
  ·
   refine oM rfl (rl_j (jb 30) je .nil h 6 rfl (fun q8 g8 h => ?_) (fun J9 h hJ9 => ?_))
   ·
    refine oM rfl (rl_j (jb 37) je .nil h 6 rfl (fun q12 g12 h => ?_) (fun J13 h hJ13 => ?_))
    ·
     refine oM rfl (rl_j (jb 44) je .nil h 6 rfl (fun q15 g15 h => ?_) (fun J16 h hJ16 => ?_))
     ·
      refine oA rfl (rnf (w_ret (ret_post (.tmp rfl .nil) .nil ?_)))
      obtain rfl := Option.some.inj h
      exact ⟨rfl, rfl⟩
     ·
      refine rl_condM (j := 38) h rfl (fun g17 h => ?_) (fun g17 h => ?_)
      ·
       refine oK 38 rfl rfl rfl g17 (v_fi rfl Val.f5 fd46_5 rfl (z := a_a.more)) (oK 38 rfl rfl rfl g17 (v_loadI ty44 rfl) (oK 38 rfl rfl rfl g17 (v_fi rfl Val.f5 fd46_5 rfl (z := a_b.more)) (oK 38 rfl rfl rfl g17 (v_loadI ty44 rfl) (cal_inv h fun y18 hy18 h => ?_))))
       refine op_take rfl rfl (dj := 38) rfl g17 (t_call (h_Same_api_Raw_w hy18) hT (.same rfl (.same rfl (.same rfl .nil))) .nil (fun R H' hR => ?_))
       obtain ⟨rfl, rfl⟩ := hR
       exact oV (v_pick_t rfl g17 rfl) (hJ16 _ () h _ (ji 6 44 rfl rfl rfl))
      ·
       refine oP 38 rfl rfl g17 (oP 38 rfl rfl g17 (oP 38 rfl rfl g17 (oP 38 rfl rfl g17 (oP 38 rfl rfl g17 ?_))))
       exact oV (v_pick_f rfl g17 rfl) (hJ16 _ () h _ (ji 6 44 rfl rfl rfl))
    ·
     refine rl_condM (j := 31) h rfl (fun g14 h => ?_) (fun g14 h => ?_)
     ·
      refine oK 31 rfl rfl rfl g14 (v_fi rfl Val.f4 fd46_4 rfl (z := a_a.rule)) (oK 31 rfl rfl rfl g14 (v_loadI ty3 rfl) (oK 31 rfl rfl rfl g14 (v_fi rfl Val.f4 fd46_4 rfl (z := a_b.rule)) (oK 31 rfl rfl rfl g14 (v_loadI ty3 rfl) (oK 31 rfl rfl rfl g14 (v_eql rfl rfl) ?_))))
      exact oV (v_pick_t rfl g14 rfl) (hJ13 _ () h _ (ji 6 37 rfl rfl rfl))
     ·
      refine oP 31 rfl rfl g14 (oP 31 rfl rfl g14 (oP 31 rfl rfl g14 (oP 31 rfl rfl g14 (oP 31 rfl rfl g14 ?_))))
      exact oV (v_pick_f rfl g14 rfl) (hJ13 _ () h _ (ji 6 37 rfl rfl rfl))
   ·
    refine rl_condM (j := 24) h rfl (fun g10 h => ?_) (fun g10 h => ?_)
    ·
     refine oK 24 rfl rfl rfl g10 (v_fi rfl Val.f3 fd46_3 rfl (z := a_a.l)) (oK 24 rfl rfl rfl g10 (v_loadI ty43 rfl) (oK 24 rfl rfl rfl g10 (v_fi rfl Val.f3 fd46_3 rfl (z := a_b.l)) (oK 24 rfl rfl rfl g10 (v_loadI ty43 rfl) (cal_inv h fun y11 hy11 h => ?_))))
     refine op_take rfl rfl (dj := 24) rfl g10 (t_call (h_h_Same_api_Value hy11) hT (.same rfl (.same rfl (.same rfl .nil))) .nil (fun R H' hR => ?_))
     obtain ⟨rfl, rfl⟩ := hR
     exact oV (v_pick_t rfl g10 rfl) (hJ9 _ () h _ (ji 6 30 rfl rfl rfl))
    ·
     refine oP 24 rfl rfl g10 (oP 24 rfl rfl g10 (oP 24 rfl rfl g10 (oP 24 rfl rfl g10 (oP 24 rfl rfl g10 ?_))))
     exact oV (v_pick_f rfl g10 rfl) (hJ9 _ () h _ (ji 6 30 rfl rfl rfl))
  ·
   refine rl_condM (j := 17) h rfl (fun g6 h => ?_) (fun g6 h => ?_)
   ·
    refine oK 17 rfl rfl rfl g6 (v_fi rfl Val.f2 fd46_2 rfl (z := a_a.b)) (oK 17 rfl rfl rfl g6 (v_loadI ty42 rfl) (oK 17 rfl rfl rfl g6 (v_fi rfl Val.f2 fd46_2 rfl (z := a_b.b)) (oK 17 rfl rfl rfl g6 (v_loadI ty42 rfl) (cal_inv h fun y7 hy7 h => ?_))))
    refine op_take rfl rfl (dj := 17) rfl g6 (t_call (h_Bytes_w hy7) hT (.same rfl (.same rfl .nil)) .nil (fun R H' hR => ?_))
    obtain ⟨rfl, rfl⟩ := hR
    exact oV (v_pick_t rfl g6 rfl) (hJ5 _ () h _ (ji 6 23 rfl rfl rfl))
   ·
    refine oP 17 rfl rfl g6 (oP 17 rfl rfl g6 (oP 17 rfl rfl g6 (oP 17 rfl rfl g6 (oP 17 rfl rfl g6 ?_))))
    exact oV (v_pick_f rfl g6 rfl) (hJ5 _ () h _ (ji 6 23 rfl rfl rfl))
 ·
  refine rl_condM (j := 10) h rfl (fun g3 h => ?_) (fun g3 h => ?_)
  ·
   refine oK 10 rfl rfl rfl g3 (v_fi rfl Val.f1 fd46_1 rfl (z := a_a.n)) (oK 10 rfl rfl rfl g3 (v_loadI ty2 rfl) (oK 10 rfl rfl rfl g3 (v_fi rfl Val.f1 fd46_1 rfl (z := a_b.n)) (oK 10 rfl rfl rfl g3 (v_loadI ty2 rfl) (oK 10 rfl rfl rfl g3 (v_eql rfl rfl) ?_))))
   exact oV (v_pick_t rfl g3 rfl) (hJ2 _ () h _ (ji 6 16 rfl rfl rfl))
  ·
   refine oP 10 rfl rfl g3 (oP 10 rfl rfl g3 (oP 10 rfl rfl g3 (oP 10 rfl rfl g3 (oP 10 rfl rfl g3 ?_))))
   exact oV (v_pick_f rfl g3 rfl) (hJ2 _ () h _ (ji 6 16 rfl rfl rfl))

theorem h_Same_api_Value_grp_w : ∀ n, h_Same_api_Value_C (h_Same_api_Value n) ∧ h_Value_C (h_Value n)
 | 0 => ⟨fun h => (by cases h), fun h => (by cases h)⟩
 | n + 1 => by
  obtain ⟨h0, h1⟩ := h_Same_api_Value_grp_w n
  exact ⟨h_Same_api_Value_w0 h0 h1, h_Value_w0 h0 h1⟩
theorem h_Value_w (n : Nat) : h_Value_C (h_Value n) := (h_Same_api_Value_grp_w n).2

end Go.Proofs.YtnnijoepfgnlfaaGreatDoor


namespace Go.Proofs.YtnnijoepfgnlfaaGreatDoor
open Go.Sy
set_option maxRecDepth 4000
end Go.Proofs.YtnnijoepfgnlfaaGreatDoor


namespace Go.Proofs.YtnnijoepfgnlfaaGreatDoor
open Go.Sy
set_option maxRecDepth 4000
end Go.Proofs.YtnnijoepfgnlfaaGreatDoor


namespace Go.Proofs.YtnnijoepfgnlfaaGreatDoor
open Go.Sy
set_option maxRecDepth 4000
theorem value_FitsBare_w : ∀ {a_t : GTab} {a_i : Int} {a_v : Val} {r : Bool}, value_FitsBare a_t a_i a_v = some r → Ctr Tryz.prog 66 [isv (a_t), isv (a_i), isv (a_v)] [] (fun R H => R = oneOf [isv (r)] ∧ H = []) := by
 intro a_t a_i a_v r h
 unfold value_FitsBare at h
 refine spec_intro Tryz.func66 rfl (by decide +kernel) (by rfl) fun w0 S0 hT => ?_
 refine wsr (oT (t_boxIC (y := a_t) rfl (fun _ _ h => h) (oT (t_boxIC (y := a_v) rfl (fun _ _ h => h) (oA rfl (rnf ?_))))))
 refine wsr (oV (v_loadI ty26 rfl) (oV (v_build (z := (GTbd.mk a_t)) rfl bu101 ze101 (.cons GTbd.f0 fd101_0 rfl (fun _ _ h => h) .nil)) (oV (v_build (z := (GChk.mk (GTbd.mk a_t) true)) rfl bu103 ze103 (.cons GChk.f0 fd103_0 rfl (fun _ _ h => h) (.cons GChk.f1 fd103_1 rfl (fun _ _ h => h) .nil))) (oT (t_boxC (y := (GChk.mk (GTbd.mk a_t) true)) rfl (fun _ _ h => h) fun b1 => ?_)))))
 refine oA rfl (rnf (wsr (oM rfl (oM rfl ?_))))
 refine oV (v_loadI ty46 rfl) (cal_inv h fun y2 hy2 h => oT (t_call (value_checker_fits_w fuel hy2) hT (.same rfl (.same rfl (.same rfl (.same rfl .nil)))) (.cons .here .nil) (fun R H' hR => ?_)))
 obtain ⟨rfl, rfl⟩ := hR
 refine oM rfl (rl_j (jb 20) je .nil h 4 rfl (fun q3 g3 h => ?_) (fun J4 h hJ4 => ?_))
 ·
  refine oA rfl (rnf (w_ret (ret_post (.tmp rfl .nil) .nil ?_)))
  obtain rfl := Option.some.inj h
  exact ⟨rfl, rfl⟩
 ·
  refine rl_condM (j := 16) h rfl (fun g5 h => ?_) (fun g5 h => ?_)
  ·
   refine oK 16 rfl rfl rfl g5 (v_loadI ty46 rfl) (cal_inv h fun y6 hy6 h => op_take rfl rfl (dj := 16) rfl g5 (t_call (value_Count_w fuel hy6) hT (.same rfl .nil) .nil (fun R H' hR => ?_)))
   obtain ⟨rfl, rfl⟩ := hR
   exact oK 16 rfl rfl rfl g5 (v_leq rfl rfl) (oV (v_pick_t rfl g5 rfl) (hJ4 _ () h _ (join_imp 4 rfl rfl (mod_cons (j := 20) rfl (fun _ _ h => h) mod_nil) (.cons .here .nil))))
  ·
   exact oP 16 rfl rfl g5 (oP 16 rfl rfl g5 (oP 16 rfl rfl g5 (oV (v_pick_f rfl g5 rfl) (hJ4 _ () h _ (join_imp 4 rfl rfl (mod_cons (j := 20) rfl (fun _ _ h => h) mod_nil) (.cons .here .nil))))))


theorem project_sides_types_w : ∀ {a_s : GSid} {a_i : Int} {a_k : Int} {r : GTyp × GTyp × Bool}, project_sides_types a_s a_i a_k = some r → Ctr Tryz.prog 100 [isv (a_s), isv (a_i), isv (a_k)] [] (fun R H => R = oneOf [isv (r.1), isv (r.2.1), isv (r.2.2)] ∧ H = []) := by
 intro a_s a_i a_k r h
 unfold project_sides_types at h
 refine spec_intro Tryz.func100 rfl (by decide +kernel) (by rfl) fun w0 S0 hT => ?_
 refine wsr (oT (t_boxIC (y := a_s) rfl (fun _ _ h => h) (oT (t_alloc _ ze87 fun b1 => oT (t_alloc _ ze87 fun b2 => oA rfl ?_)))))
 refine rnf (w_seq (wsr (oM rfl (oV (v_lss rfl rfl) ?_))))
 refine oM rfl (rl_j (jb 18) je .nil h 7 rfl (fun q3 g3 h => ?_) (fun J4 h hJ4 => ?_))
 ·
  refine oM rfl (rl_j (jb 22) je .nil h 3 rfl (fun q6 g6 h => ?_) (fun J7 h hJ7 => ?_))
  ·
   refine oM rfl (rl_j (jb 30) je .nil h 7 rfl (fun q9 g9 h => ?_) (fun J10 h hJ10 => ?_))
   ·
    refine rnf (w_condM h rfl (fun _ h => ?_) (fun _ h => ?_))
    ·
     refine wsr (oV (v_build (z := (GTyp.mk (0 : Int) ([] : (List Tag)) (GCon.mk false false false false (0 : Int) (0 : Int)) ([] : (List GItem)) ([] : (List GFld)) (0 : Int) false (0 : Int))) rfl bu87 ze87 .nil) (oV (v_build (z := (GTyp.mk (0 : Int) ([] : (List Tag)) (GCon.mk false false false false (0 : Int) (0 : Int)) ([] : (List GItem)) ([] : (List GFld)) (0 : Int) false (0 : Int))) rfl bu87 ze87 .nil) (oT (t_storeC (y' := ((GTyp.mk (0 : Int) ([] : (List Tag)) (GCon.mk false false false false (0 : Int) (0 : Int)) ([] : (List GItem)) ([] : (List GFld)) (0 : Int) false (0 : Int)) : GTyp)) ty87 rfl rfl (fun _ _ h => h) (.there .here) rfl ?_))))
     refine oT (t_storeC (y' := ((GTyp.mk (0 : Int) ([] : (List Tag)) (GCon.mk false false false false (0 : Int) (0 : Int)) ([] : (List GItem)) ([] : (List GFld)) (0 : Int) false (0 : Int)) : GTyp)) ty87 rfl rfl (fun _ _ h => h) (.there .here) rfl (oA rfl (rnf (w_ret (ret_nxt ?_)))))
     refine ret_post (.cell rfl (.there .here) ty87 (.cell rfl .here ty87 (.tmp rfl .nil))) .nil ?_
     obtain rfl := Option.some.inj h
     exact ⟨rfl, rfl⟩
    ·
     refine wkf (w_seq (w_regionD (.v 0 (.v 1 (.v 2 (.v 3 (.v 4 (.v 5 (.v 6 (.v 7 (.v 8 (.v 9 (.v 10 (.v 11 (.v 12 (.v 13 (.v 14 (.v 15 (.v 16 (.v 17 (.v 18 (.v 19 (.v 20 (.v 21 (.v 22 (.v 23 (.v 24 (.v 25 (.v 26 (.t 27 (.t 28 (.v 29 .nil)))))))))))))))))))))))))))))) moOrd (by kernel_rfl) ?_))
     refine rd_v rfl (v_fi rfl GSid.f0 fd120_0 rfl (z := a_s.a)) (rd_v rfl (v_fi rfl GTab.f3 fd26_3 rfl (z := a_s.a.types)) (rd_v rfl (v_loadI ty24 rfl) (rvm rfl rfl (cal_inv h fun y12 hy12 h => ?_))))
     refine rd_v rfl (v_ix (l := a_s.a.types) rfl (fun _ _ h => h) rfl sl24 hy12) (rd_v rfl (v_loadI ty87 rfl) (rd_v rfl (v_fi rfl GSid.f1 fd120_1 rfl (z := a_s.b)) (rd_v rfl (v_fi rfl GTab.f3 fd26_3 rfl (z := a_s.b.types)) (rd_v rfl (v_loadI ty24 rfl) ?_))))
     refine rvm rfl rfl (cal_inv h fun y13 hy13 h => rd_v rfl (v_ix (l := a_s.b.types) rfl (fun _ _ h => h) rfl sl24 hy13) (rd_v rfl (v_loadI ty87 rfl) (rd_v rfl (v_fi rfl GSid.f0 fd120_0 rfl (z := a_s.a)) ?_)))
     refine rd_v rfl (v_fi rfl GTab.f3 fd26_3 rfl (z := a_s.a.types)) (rd_v rfl (v_loadI ty24 rfl) (rvm rfl rfl (cal_inv h fun y14 hy14 h => rd_v rfl (v_ix (l := a_s.a.types) rfl (fun _ _ h => h) rfl sl24 hy14) ?_)))
     refine rd_v rfl (v_fi rfl GTyp.f0 fd87_0 rfl (z := y14.kind)) (rd_v rfl (v_loadI ty3 rfl) (rd_v rfl (v_fi rfl GSid.f1 fd120_1 rfl (z := a_s.b)) (rd_v rfl (v_fi rfl GTab.f3 fd26_3 rfl (z := a_s.b.types)) (rd_v rfl (v_loadI ty24 rfl) ?_))))
     refine rvm rfl rfl (cal_inv h fun y15 hy15 h => rd_v rfl (v_ix (l := a_s.b.types) rfl (fun _ _ h => h) rfl sl24 hy15) (rd_v rfl (v_fi rfl GTyp.f0 fd87_0 rfl (z := y15.kind)) (rd_v rfl (v_loadI ty3 rfl) ?_)))
     refine rd_v rfl (v_eql rfl rfl) (rd_t rfl rfl (t_storeC (y' := (y12 : GTyp)) ty87 rfl rfl (fun _ _ h => h) (.there .here) rfl (rd_t rfl rfl (t_storeC (y' := (y13 : GTyp)) ty87 rfl rfl (fun _ _ h => h) (.there .here) rfl (rd_v rfl (v_assign rfl) (rd_nil ?_))))))
     refine fin_nxt (w_ret (ret_post (.cell rfl (.there .here) ty87 (.cell rfl .here ty87 (.tmp rfl .nil))) .nil ?_))
     obtain rfl := Option.some.inj h
     exact ⟨rfl, rfl⟩
   ·
    refine rl_condM (j := 23) h rfl (fun g11 h => ?_) (fun g11 h => ?_)
    ·
     refine oP 23 rfl rfl g11 (oP 23 rfl rfl g11 (oP 23 rfl rfl g11 (oP 23 rfl rfl g11 (oP 23 rfl rfl g11 ?_))))
     exact oP 23 rfl rfl g11 (oV (v_pick_t rfl g11 rfl) (hJ10 _ () h _ (join_imp 7 rfl rfl (mod_cons (j := 30) rfl (fun _ _ h => h) mod_nil) (.cons .here (.cons .here .nil)))))
    ·
     refine oK 23 rfl rfl rfl g11 (v_move rfl) (oK 23 rfl rfl rfl g11 (v_fi rfl GSid.f1 fd120_1 rfl (z := a_s.b)) (oK 23 rfl rfl rfl g11 (v_fi rfl GTab.f3 fd26_3 rfl (z := a_s.b.types)) (oK 23 rfl rfl rfl g11 (v_loadI ty24 rfl) (oK 23 rfl rfl rfl g11 (v_ln (l := a_s.b.types) rfl (fun _ _ h => h) sl24) ?_))))
     exact oK 23 rfl rfl rfl g11 (v_geq rfl rfl) (oV (v_pick_f rfl g11 rfl) (hJ10 _ () h _ (join_imp 7 rfl rfl (mod_cons (j := 30) rfl (fun _ _ h => h) mod_nil) (.cons .here (.cons .here .nil)))))
  ·
   refine rl_condM (j := 19) h rfl (fun g8 h => ?_) (fun g8 h => ?_)
   ·
    exact oP 19 rfl rfl g8 (oP 19 rfl rfl g8 (oV (v_pick_t rfl g8 rfl) (hJ7 _ () h _ (join_imp 3 rfl rfl (mod_cons (j := 22) rfl (fun _ _ h => h) mod_nil) (.cons .here (.cons .here .nil))))))
   ·
    exact oK 19 rfl rfl rfl g8 (v_move rfl) (oK 19 rfl rfl rfl g8 (v_lss rfl rfl) (oV (v_pick_f rfl g8 rfl) (hJ7 _ () h _ (join_imp 3 rfl rfl (mod_cons (j := 22) rfl (fun _ _ h => h) mod_nil) (.cons .here (.cons .here .nil))))))
 ·
  refine rl_condM (j := 11) h rfl (fun g5 h => ?_) (fun g5 h => ?_)
  ·
   refine oP 11 rfl rfl g5 (oP 11 rfl rfl g5 (oP 11 rfl rfl g5 (oP 11 rfl rfl g5 (oP 11 rfl rfl g5 ?_))))
   exact oP 11 rfl rfl g5 (oV (v_pick_t rfl g5 rfl) (hJ4 _ () h _ (join_imp 7 rfl rfl (mod_cons (j := 18) rfl (fun _ _ h => h) mod_nil) (.cons .here (.cons .here .nil)))))
  ·
   refine oK 11 rfl rfl rfl g5 (v_move rfl) (oK 11 rfl rfl rfl g5 (v_fi rfl GSid.f0 fd120_0 rfl (z := a_s.a)) (oK 11 rfl rfl rfl g5 (v_fi rfl GTab.f3 fd26_3 rfl (z := a_s.a.types)) (oK 11 rfl rfl rfl g5 (v_loadI ty24 rfl) (oK 11 rfl rfl rfl g5 (v_ln (l := a_s.a.types) rfl (fun _ _ h => h) sl24) ?_))))
   exact oK 11 rfl rfl rfl g5 (v_geq rfl rfl) (oV (v_pick_f rfl g5 rfl) (hJ4 _ () h _ (join_imp 7 rfl rfl (mod_cons (j := 18) rfl (fun _ _ h => h) mod_nil) (.cons .here (.cons .here .nil)))))


def project_walker_fields_C (f' : GWlk → GTyp → GTyp → Val → Option ((List Val) × GWlk)) : Prop :=
 ∀ {a_w_ : GWlk} {a_x : GTyp} {a_y : GTyp} {a_v : Val} {b_a_w_ : Nat} {r : (List Val) × GWlk}, f' a_w_ a_x a_y a_v = some r → Ctr Tryz.prog 101 [ptrv b_a_w_ (Fld.id GWlk), isv (a_x), isv (a_y), isv (a_v)] [boxE b_a_w_ (a_w_ : GWlk)] (fun R H => ∃ u1 : Vt, R = oneOf [vecv u1 ((r.1).length)] ∧ H = [vecE u1 (r.1), boxE b_a_w_ (r.2)])
def project_walker_value_C (f' : GWlk → Int → Int → Val → Option (Val × GWlk)) : Prop :=
 ∀ {a_w_ : GWlk} {a_i : Int} {a_k : Int} {a_v : Val} {b_a_w_ : Nat} {r : Val × GWlk}, f' a_w_ a_i a_k a_v = some r → Ctr Tryz.prog 68 [ptrv b_a_w_ (Fld.id GWlk), isv (a_i), isv (a_k), isv (a_v)] [boxE b_a_w_ (a_w_ : GWlk)] (fun R H => R = oneOf [isv (r.1)] ∧ H = [boxE b_a_w_ (r.2)])
theorem project_walker_fields_w0 {project_walker_fields' : GWlk → GTyp → GTyp → Val → Option ((List Val) × GWlk)} {project_walker_value' : GWlk → Int → Int → Val → Option (Val × GWlk)} (h_project_walker_fields : project_walker_fields_C project_walker_fields') (h_project_walker_value : project_walker_value_C project_walker_value') : ∀ {a_w_ : GWlk} {a_x : GTyp} {a_y : GTyp} {a_v : Val} {b_a_w_ : Nat} {r : (List Val) × GWlk}, project_walker_fields_F project_walker_fields' project_walker_value' a_w_ a_x a_y a_v = some r → Ctr Tryz.prog 101 [ptrv b_a_w_ (Fld.id GWlk), isv (a_x), isv (a_y), isv (a_v)] [boxE b_a_w_ (a_w_ : GWlk)] (fun R H => ∃ u1 : Vt, R = oneOf [vecv u1 ((r.1).length)] ∧ H = [vecE u1 (r.1), boxE b_a_w_ (r.2)]) := by
 intro a_w_ a_x a_y a_v b_a_w_ r h
 unfold project_walker_fields_F at h
 refine spec_intro Tryz.func101 rfl (by decide +kernel) (by rfl) fun w0 S0 hT => ?_
 refine wsr (oT (t_boxIC (y := a_x) rfl (fun _ _ h => h) (oT (t_boxIC (y := a_y) rfl (fun _ _ h => h) (oT (t_boxIC (y := a_v) rfl (fun _ _ h => h) (oA rfl ?_)))))))
 refine rl_upd (upd_vec (α := Val)) (rl_upd (upd_slot 8 rfl nilvV) (rnf (w_seq (wsr ?_))))
 refine oV (v_fi rfl GTyp.f4 fd87_4 rfl (z := a_x.fields)) (oV (v_loadI ty85 rfl) (oV (v_ln (l := a_x.fields) rfl (fun _ _ h => h) sl85) (oV (v_fi rfl GTyp.f4 fd87_4 rfl (z := a_y.fields)) (oV (v_loadI ty85 rfl) ?_))))
 refine oV (v_ln (l := a_y.fields) rfl (fun _ _ h => h) sl85) (oV (v_neq rfl rfl) (oM rfl (rl_j (jb 28) je .nil h 9 rfl (fun q2 g2 h => ?_) (fun J3 h hJ3 => ?_))))
 ·
  refine rnf (w_condM h rfl (fun _ h => ?_) (fun _ h => ?_))
  ·
   refine wsr (oM rfl (oV (v_nilCheck rfl) (oV (v_fa rfl GWlk.f1 fd122_1) (oT (t_storeC (y' := ({ a_w_ with e := (14 : Int) } : GWlk)) ty65 rfl rfl (fun _ _ h => h) (.there .here) rfl ?_)))))
   refine rnf (wsr (oA rfl (rl_upd (upd_vec (α := Val)) (rl_upd (upd_slot 8 rfl nilvV) ?_))))
   refine rnf (w_ret (ret_nxt (ret_post (.as rfl (vecvE (by first | rfl | simp)) .nil) (.cons .here (.cons .here .nil)) ?_)))
   obtain rfl := Option.some.inj h
   exact ⟨none, rfl, rfl⟩
  ·
   refine wkf (wsr (oV (v_fi rfl GTyp.f4 fd87_4 rfl (z := a_y.fields)) (oV (v_loadI ty85 rfl) (oV (v_ln (l := a_y.fields) rfl (fun _ _ h => h) sl85) ?_))))
   refine asd_inv h fun q9 h => oT (t_makeVec el43 ze46 Tryz.underlying43 rfl rfl q9.1 rfl q9.2 fun v10 => oA rfl (rnf (w_seq ?_)))
   refine wsr (oV (v_fi rfl GTyp.f4 fd87_4 rfl (z := a_y.fields)) (oV (v_loadI ty85 rfl) (oV (v_ln (l := a_y.fields) rfl (fun _ _ h => h) sl85) (oM rfl ?_))))
   refine rnf (w_block (w_lp (ι := (List Val) × Int × GWlk) (γ := Unit) (fun q11 g11 => [(39, isv (q11.2.1)), (9, vecv v10 (q11.1.length))]) (fun q11 g11 => [vecE v10 (q11.1 : List Val), boxE b_a_w_ (q11.2.2 : GWlk)]) h () (mod_cons (j := 39) rfl (fun _ _ h => h) (mod_cons (j := 9) rfl (vecvE (by first | rfl | simp)) mod_nil)) (.cons .here (.cons (.there .here) .nil)) (fun L12 q11 g11 Q43 h hL12 eL12 rL12 => ?_)))
   refine wsr (oV (v_lss rfl rfl) (rnf (w_seq (w_condM h rfl (fun _ h => ?_) (fun _ h => ?_)))))
   ·
    refine wkf (w_seq (w_J (ι := (List Val) × GWlk) (γ := Unit) (fun q28 g28 => [(9, vecv v10 (q28.1.length))]) (fun q28 g28 => [vecE v10 (q28.1 : List Val), boxE b_a_w_ (q28.2 : GWlk)]) (.cons .here (.cons .here .nil)) h (fun q28 g28 h => ?_) (fun J29 h hJ29 => ?_)))
    ·
     refine w_region (ck_inv h fun q42 h => oV (v_add rfl rfl q42) (oM rfl (rl_nil ?_)))
     exact hL12 _ () h _ (join_imp 6 rfl rfl (mod_cons (j := 39) rfl (fun _ _ h => h) (mod_cons (j := 9) rfl (vecvE (by first | rfl | simp)) mod_nil)) (.cons .here (.cons .here (.cons .here .nil))))
    ·
     refine w_block (wsr (oM rfl (cal_inv h fun y30 hy30 h => oV (v_ix (l := a_y.fields) rfl (fun _ _ h => h) rfl sl85 hy30) ?_)))
     refine oV (v_loadI ty92 rfl) (oT (t_alloc _ ze92 fun b31 => oA rfl (oT (t_storeC (y' := (y30 : GFld)) ty92 rfl rfl (fun _ _ h => h) .here rfl (rl_upd (upd_imm 11 .here rfl) ?_)))))
     refine rnf (wsr (oM rfl (oV (v_fi rfl GTyp.f4 fd87_4 rfl (z := a_x.fields)) (oV (v_loadI ty85 rfl) ?_))))
     refine oV (v_ln (l := a_x.fields) rfl (fun _ _ h => h) sl85) (oV (v_lss rfl rfl) (oM rfl (rl_j (jb 57) je .nil h 8 rfl (fun q32 g32 h => ?_) (fun J33 h hJ33 => ?_))))
     ·
      refine rnf (w_condM h rfl (fun _ h => ?_) (fun _ h => ?_))
      ·
       refine w_regionD (.v 0 (.v 1 (.v 2 (.v 3 (.v 4 (.v 5 (.v 6 (.v 7 (.v 8 (.v 9 (.v 10 (.v 11 (.v 12 (.v 13 (.v 14 (.v 15 (.t 16 (.v 17 (.t 18 .nil))))))))))))))))))) moOrd (by kernel_rfl) ?_
       refine rvm rfl rfl (rvm rfl rfl (rvm rfl rfl (rd_v rfl (v_fi rfl GTyp.f4 fd87_4 rfl (z := a_x.fields)) (rd_v rfl (v_loadI ty85 rfl) ?_))))
       refine rvm rfl rfl (cal_inv h fun y37 hy37 h => rd_v rfl (v_ix (l := a_x.fields) rfl (fun _ _ h => h) rfl sl85 hy37) (rd_v rfl (v_fi rfl GFld.f1 fd92_1 rfl (z := y37.ty)) (rd_v rfl (v_loadI ty3 rfl) ?_)))
       refine rd_v rfl (v_fi rfl GFld.f1 fd92_1 rfl (z := y30.ty)) (rd_v rfl (v_loadI ty3 rfl) (rd_v rfl (v_fi rfl Val.f3 fd46_3 rfl (z := a_v.l)) (rd_v rfl (v_loadI ty43 rfl) (rvm rfl rfl ?_))))
       refine cal_inv h fun y38 hy38 h => rd_v rfl (v_ix (l := a_v.l) rfl (fun _ _ h => h) rfl sl43 hy38) (rd_v rfl (v_loadI ty46 rfl) (cal_inv h fun y39 hy39 h => rd_t rfl rfl (t_call (h_project_walker_value hy39) hT (.same rfl (.same rfl (.same rfl (.same rfl .nil)))) (.cons (.there .here) .nil) (fun R H' hR => ?_))))
       obtain ⟨rfl, rfl⟩ := hR
       refine asd_inv h fun q40 h => rd_v rfl (v_vidx (α := Val) sl43 rfl rfl q40.1 q40.2) (cal_inv h fun y41 hy41 h => rd_t rfl rfl (t_vstore ty46 rfl rfl (.there .here) hy41 (rd_nil ?_)))
       exact fin_block (hJ29 _ () h _ (join_imp 31 rfl rfl (mod_cons (j := 9) rfl (vecvE (by first | rfl | simp)) mod_nil) (.cons .here (.cons .here (.cons .here .nil)))))
      ·
       exact w_skip (fin_block (hJ29 _ () h _ (join_imp 13 rfl rfl (mod_cons (j := 9) rfl (vecvE (by first | rfl | simp)) mod_nil) (.cons .here (.cons .here (.cons .here .nil))))))
     ·
      refine rl_condM (j := 49) h rfl (fun g34 h => ?_) (fun g34 h => ?_)
      ·
       refine oK 49 rfl rfl rfl g34 (v_fi rfl Val.f3 fd46_3 rfl (z := a_v.l)) (oK 49 rfl rfl rfl g34 (v_loadI ty43 rfl) (oK 49 rfl rfl rfl g34 (v_move rfl) (cal_inv h fun y35 hy35 h => oK 49 rfl rfl rfl g34 (v_ix (l := a_v.l) rfl (fun _ _ h => h) rfl sl43 hy35) ?_)))
       refine oK 49 rfl rfl rfl g34 (v_loadI ty46 rfl) (cal_inv h fun y36 hy36 h => op_take rfl rfl (dj := 49) rfl g34 (t_call (value_Absent_w hy36) hT (.same rfl .nil) .nil (fun R H' hR => ?_)))
       obtain ⟨rfl, rfl⟩ := hR
       exact oK 49 rfl rfl rfl g34 (v_not rfl) (oV (v_pick_t rfl g34 rfl) (hJ33 _ () h _ (join_imp 8 rfl rfl (mod_cons (j := 57) rfl (fun _ _ h => h) mod_nil) (.cons .here (.cons .here (.cons .here .nil))))))
      ·
       refine oP 49 rfl rfl g34 (oP 49 rfl rfl g34 (oP 49 rfl rfl g34 (oP 49 rfl rfl g34 (oP 49 rfl rfl g34 ?_))))
       exact oP 49 rfl rfl g34 (oP 49 rfl rfl g34 (oV (v_pick_f rfl g34 rfl) (hJ33 _ () h _ (join_imp 8 rfl rfl (mod_cons (j := 57) rfl (fun _ _ h => h) mod_nil) (.cons .here (.cons .here (.cons .here .nil)))))))
   ·
    refine w_exit (exi_nxt (eL12 _ _ (exi_block (fin_nxt ?_))))
    refine wsr (oM rfl (oA rfl (rnf (w_ret ?_))))
    refine ret_post (.as rfl (vecvE (by first | rfl | simp)) .nil) (.cons .here (.cons .here .nil)) ?_
    obtain rfl := Option.some.inj h
    exact ⟨v10, rfl, rfl⟩
 ·
  refine rl_condM (j := 19) h rfl (fun g4 h => ?_) (fun g4 h => ?_)
  ·
   refine oK 19 rfl rfl rfl g4 (v_fi rfl GTyp.f6 fd87_6 rfl (z := a_x.more)) (oK 19 rfl rfl rfl g4 (v_loadI ty4 rfl) (oK 19 rfl rfl rfl g4 (v_not rfl) (oK 19 rfl rfl rfl g4 (v_move rfl) (rl_j (jb 27) je .nil h 4 rfl (fun q5 g5 h => ?_) (fun J6 h hJ6 => ?_)))))
   ·
    exact oV (v_pick_t rfl g4 rfl) (hJ3 _ () h _ (join_imp 6 rfl rfl (mod_cons (j := 28) rfl (fun _ _ h => h) mod_nil) (.cons .here (.cons .here .nil))))
   ·
    refine rl_condM (j := 23) h rfl (fun g7 h => ?_) (fun g7 h => ?_)
    ·
     exact oP 23 rfl rfl g7 (oP 23 rfl rfl g7 (oP 23 rfl rfl g7 (oK 19 rfl rfl rfl g4 (v_pick_t rfl g7 rfl) (hJ6 _ () h _ (join_imp 4 rfl rfl (mod_cons (j := 27) rfl (fun _ _ h => h) mod_nil) (.cons .here (.cons .here .nil)))))))
    ·
     exact oK 23 rfl rfl rfl g7 (v_fi rfl GTyp.f6 fd87_6 rfl (z := a_y.more)) (oK 23 rfl rfl rfl g7 (v_loadI ty4 rfl) (oK 23 rfl rfl rfl g7 (v_not rfl) (oK 19 rfl rfl rfl g4 (v_pick_f rfl g7 rfl) (hJ6 _ () h _ (join_imp 4 rfl rfl (mod_cons (j := 27) rfl (fun _ _ h => h) mod_nil) (.cons .here (.cons .here .nil)))))))
  ·
   refine oP 19 rfl rfl g4 (oP 19 rfl rfl g4 (oP 19 rfl rfl g4 (oP 19 rfl rfl g4 (op_passU rfl (dj := 23) rfl ?_))))
   exact op_passU rfl (dj := 23) rfl (op_passU rfl (dj := 23) rfl (oP 19 rfl rfl g4 (oV (v_pick_f rfl g4 rfl) (hJ3 _ () h _ (join_imp 9 rfl rfl (mod_cons (j := 28) rfl (fun _ _ h => h) mod_nil) (.cons .here (.cons .here .nil)))))))

theorem project_walker_value_w0 {project_walker_fields' : GWlk → GTyp → GTyp → Val → Option ((List Val) × GWlk)} {project_walker_value' : GWlk → Int → Int → Val → Option (Val × GWlk)} (h_project_walker_fields : project_walker_fields_C project_walker_fields') (h_project_walker_value : project_walker_value_C project_walker_value') : ∀ {a_w_ : GWlk} {a_i : Int} {a_k : Int} {a_v : Val} {b_a_w_ : Nat} {r : Val × GWlk}, project_walker_value_F project_walker_fields' project_walker_value' a_w_ a_i a_k a_v = some r → Ctr Tryz.prog 68 [ptrv b_a_w_ (Fld.id GWlk), isv (a_i), isv (a_k), isv (a_v)] [boxE b_a_w_ (a_w_ : GWlk)] (fun R H => R = oneOf [isv (r.1)] ∧ H = [boxE b_a_w_ (r.2)]) := by
 intro a_w_ a_i a_k a_v b_a_w_ r h
 unfold project_walker_value_F at h
 refine spec_intro Tryz.func68 rfl (by decide +kernel) (by rfl) fun w0 S0 hT => ?_
 refine wsr (oT (t_boxIC (y := a_v) rfl (fun _ _ h => h) (oT (t_alloc _ ze46 fun b1 => rnf (wsr ?_)))))
 refine oV (v_build (z := (Val.mk (12 : Int) (0 : Int) ([] : (List UInt8)) ([] : (List Val)) (0 : Int) ([] : (List Raw)))) rfl bu46 ze46 (.cons Val.f0 fd46_0 rfl (fun _ _ h => h) .nil)) (oT (t_alloc _ ze46 fun b2 => oT (t_storeC (y' := ((Val.mk (12 : Int) (0 : Int) ([] : (List UInt8)) ([] : (List Val)) (0 : Int) ([] : (List Raw))) : Val)) ty46 rfl rfl (fun _ _ h => h) .here rfl (rl_upd (upd_imm 9 .here rfl) (rnf ?_)))))
 refine w_seq (wsr (oV (v_fi rfl Val.f0 fd46_0 rfl (z := a_v.kind)) (oV (v_loadI ty3 rfl) (oV (v_eql rfl rfl) ?_))))
 refine rnf (w_condM h rfl (fun _ h => ?_) (fun _ h => ?_))
 ·
  refine wsr (oV (v_loadI ty46 rfl) (oT (t_storeC (y' := ((Val.mk (12 : Int) (0 : Int) ([] : (List UInt8)) ([] : (List Val)) (0 : Int) ([] : (List Raw))) : Val)) ty46 rfl rfl (fun _ _ h => h) .here rfl (rnf (w_ret ?_)))))
  refine ret_nxt (ret_post (.cell rfl .here ty46 .nil) (.cons (.there .here) .nil) ?_)
  obtain rfl := Option.some.inj h
  exact ⟨rfl, rfl⟩
 ·
  refine wkf (wsr (oM rfl (oV (v_nilCheck rfl) (oV (v_fa rfl GWlk.f0 fd122_0) ?_))))
  refine oT (t_loadC (R := isv (a_w_.sides)) ty120 rfl (.there .here) (fun _ _ h => h) (oM rfl (oM rfl (cal_inv h fun y3 hy3 h => oT (t_call (project_sides_types_w hy3) hT (.same rfl (.same rfl (.same rfl .nil))) .nil (fun R H' hR => ?_))))))
  obtain ⟨rfl, rfl⟩ := hR
  refine oM rfl (oV (v_extract rfl rfl) (oV (v_extract rfl rfl) (oV (v_extract rfl rfl) (oT (t_alloc _ ze87 fun b4 => ?_)))))
  refine oT (t_alloc _ ze87 fun b5 => oT (t_storeC (y' := (y3.1 : GTyp)) ty87 rfl rfl (fun _ _ h => h) (.there .here) rfl (rl_upd (upd_imm 10 .here rfl) (oT (t_storeC (y' := (y3.2.1 : GTyp)) ty87 rfl rfl (fun _ _ h => h) .here rfl (rl_upd (upd_imm 11 .here rfl) ?_))))))
  refine oA rfl (rnf (w_seq (wsr (oM rfl ?_))))
  refine oV (v_not rfl) (rnf (w_condM h rfl (fun _ h => ?_) (fun _ h => ?_)))
  ·
   refine wsr (oM rfl (oV (v_nilCheck rfl) (oV (v_fa rfl GWlk.f1 fd122_1) (oT (t_storeC (y' := ({ a_w_ with e := (14 : Int) } : GWlk)) ty65 rfl rfl (fun _ _ h => h) (.there .here) rfl ?_)))))
   refine rnf (wsr (oV (v_build (z := (Val.mk (0 : Int) (0 : Int) ([] : (List UInt8)) ([] : (List Val)) (0 : Int) ([] : (List Raw)))) rfl bu46 ze46 .nil) (oT (t_storeC (y' := ((Val.mk (0 : Int) (0 : Int) ([] : (List UInt8)) ([] : (List Val)) (0 : Int) ([] : (List Raw))) : Val)) ty46 rfl rfl (fun _ _ h => h) (.there .here) rfl (rnf ?_)))))
   refine w_ret (ret_nxt (ret_post (.cell rfl .here ty46 .nil) (.cons (.there .here) .nil) ?_))
   obtain rfl := Option.some.inj h
   exact ⟨rfl, rfl⟩
  ·
   refine wkf (w_seq (w_J (ι := Val) (γ := Nat × Tok) (fun q6 g6 => [(13, ptrv g6.1 (Fld.id (Int × Int × (List UInt8) × (TList Val) × Int × (List Raw))))]) (fun q6 g6 => [boxE g6.1 ((q6.kind, q6.n, q6.b, (TList.mk g6.2 q6.l), q6.rule, q6.more) : (Int × Int × (List UInt8) × (TList Val) × Int × (List Raw))), tokE g6.2]) .nil h (fun q6 g6 h => ?_) (fun J7 h hJ7 => ?_)))
   ·
    refine w_seq (wsr (oV (v_fi rfl Val.f0 fd46_0 rfl (z := a_v.kind)) (oV (v_loadI ty3 rfl) (rnf ?_))))
    refine w_J (ι := Val × GWlk) (γ := Tok) (fun q15 g15 => []) (fun q15 g15 => [boxE g6.1 ((q15.1.kind, q15.1.n, q15.1.b, (TList.mk g15 q15.1.l), q15.1.rule, q15.1.more) : (Int × Int × (List UInt8) × (TList Val) × Int × (List Raw))), tokE g15, boxE b_a_w_ (q15.2 : GWlk)]) (.cons .here (.cons (.there (.there .here)) (.cons .here .nil))) h (fun q15 g15 h => ?_) (fun J16 h hJ16 => ?_)
    ·
     refine wsr (oT (t_loadC (y := ((q15.1.kind, q15.1.n, q15.1.b, (TList.mk g15 q15.1.l), q15.1.rule, q15.1.more) : (Int × Int × (List UInt8) × (TList Val) × Int × (List Raw)))) (R := isv (((q15.1.kind, q15.1.n, q15.1.b, (TList.mk g15 q15.1.l), q15.1.rule, q15.1.more)) : ((Int × Int × (List UInt8) × (TList Val) × Int × (List Raw))))) ty46 rfl .here (by exact (fun _ _ h => h)) ?_))
     refine rl_upd (upd_slot (R' := isv (q15.1)) 118 rfl (Cv.isv rfl fun S => (fun cs h => Cv.val cs (((Cv.pair Cv.id (Cv.pair Cv.id (Cv.pair Cv.id (Cv.pair Cv.tl (Cv.pair Cv.id Cv.id))))) : Cv S ((q15.1.kind, q15.1.n, q15.1.b, (TList.mk g15 q15.1.l), q15.1.rule, q15.1.more) : (Int × Int × (List UInt8) × (TList Val) × Int × (List Raw))) (Val.to q15.1)) cs h)))) (oT (t_storeC (y' := (q15.1 : Val)) ty46 rfl rfl (fun _ _ h => h) (.there (.there (.there .here))) rfl (rnf (w_ret (ret_post (.cell rfl .here ty46 .nil) (.cons (.there (.there (.there .here))) .nil) ?_)))))
     obtain rfl := Option.some.inj h
     exact ⟨rfl, rfl⟩
    ·
     refine w_block (wsr (oV (v_eql rfl rfl) (oA rfl (rnf ?_))))
     refine w_condM h rfl (fun _ h => ?_) (fun _ h => ?_)
     ·
      refine wsr (oV (v_loadI ty87 rfl) (oV (v_fi rfl Val.f1 fd46_1 rfl (z := a_v.n)) (oV (v_loadI ty2 rfl) (cal_inv h fun y17 hy17 h => ?_))))
      refine oT (t_call (value_Item_w hy17) hT (.same rfl (.same rfl .nil)) .nil (fun R H' hR => ?_))
      obtain ⟨rfl, rfl⟩ := hR
      refine oV (v_lss rfl rfl) (rnf (w_condM h rfl (fun _ h => ?_) (fun _ h => ?_)))
      ·
       refine wsr (oV (v_loadI ty46 rfl) (oT (t_storeC (y' := ((Val.mk (12 : Int) (0 : Int) ([] : (List UInt8)) ([] : (List Val)) (0 : Int) ([] : (List Raw))) : Val)) ty46 rfl rfl (fun _ _ h => h) (.there (.there .here)) rfl (rnf (w_ret ?_)))))
       refine ret_block (ret_nxt (ret_post (.cell rfl .here ty46 .nil) (.cons (.there (.there (.there .here))) .nil) ?_))
       obtain rfl := Option.some.inj h
       exact ⟨rfl, rfl⟩
      ·
       exact w_skip (fin_block (hJ16 _ (g6.2) h _ (join_imp 7 rfl rfl mod_nil (.cons .here (.cons .here (.cons (.there .here) (.cons .here .nil)))))))
     ·
      refine wsr (oV (v_eql rfl rfl) (oA rfl (rnf (w_condM h rfl (fun _ h => ?_) (fun _ h => ?_)))))
      ·
       refine wsr (oV (v_fi rfl Val.f3 fd46_3 rfl (z := a_v.l)) (oV (v_loadI ty43 rfl) (oV (v_ln (l := a_v.l) rfl (fun _ _ h => h) sl43) (oM rfl ?_))))
       refine rnf (w_block (w_lp (ι := Int × Val × GWlk) (γ := Tok) (fun q18 g18 => [(61, isv (q18.1))]) (fun q18 g18 => [boxE g6.1 ((q18.2.1.kind, q18.2.1.n, q18.2.1.b, (TList.mk g18 q18.2.1.l), q18.2.1.rule, q18.2.1.more) : (Int × Int × (List UInt8) × (TList Val) × Int × (List Raw))), tokE g18, boxE b_a_w_ (q18.2.2 : GWlk)]) h (g6.2) (mod_cons (j := 61) rfl (fun _ _ h => h) mod_nil) (.cons .here (.cons .here (.cons (.there .here) .nil))) (fun L19 q18 g18 Q42 h hL19 eL19 rL19 => wsr (oV (v_lss rfl rfl) ?_))))
       refine rnf (w_seq (w_condM h rfl (fun _ h => ?_) (fun _ h => ?_)))
       ·
        refine wkf (w_seq (w_block (wsr (cal_inv h fun y31 hy31 h => ?_))))
        refine oV (v_ix (l := a_v.l) rfl (fun _ _ h => h) rfl sl43 hy31) (oV (v_loadI ty46 rfl) (oT (t_alloc _ ze46 fun b32 => oT (t_storeC (y' := (y31 : Val)) ty46 rfl rfl (fun _ _ h => h) .here rfl (rl_upd (upd_imm 15 .here rfl) ?_)))))
        refine rnf (w_regionD (.v 0 (.v 2 (.v 3 (.v 4 (.v 5 (.v 6 (.v 7 (.alt 1 (.t 8 (.t 9 (.t 10 (.v 11 (.t 12 .nil))))) (.t 8 (.alt 1 (.t 9 (.t 10 (.v 11 (.t 12 .nil)))) (.t 9 (.t 1 (.t 10 (.v 11 (.t 12 .nil))))))))))))))) moOrd (by kernel_rfl) ?_)
        refine rd_v rfl (v_fa rfl pt46_0_3 fd46_3) (rvm rfl rfl (rd_v rfl (v_fi rfl GTyp.f7 fd87_7 rfl (z := y3.1.of)) (rd_v rfl (v_loadI ty3 rfl) (rd_v rfl (v_fi rfl GTyp.f7 fd87_7 rfl (z := y3.2.1.of)) ?_))))
        refine rd_v rfl (v_loadI ty3 rfl) (rd_v rfl (v_loadI ty46 rfl) (cal_inv h fun y33 hy33 h => asr_inv h fun q36 h => ck_inv h fun q37 h => ?_))
        refine rd_two ?_ ?_
        ·
         refine rd_t rfl rfl (t_loadC (R := appv g18 (q18.2.1.l)) ty43 rfl .here isvT1 (rd_t rfl rfl (t_call (h_project_walker_value hy33) hT (.same rfl (.same rfl (.same rfl (.same rfl .nil)))) (.cons (.there (.there .here)) .nil) (fun R H' hR => ?_))))
         obtain ⟨rfl, rfl⟩ := hR
         refine rd_t rfl rfl (t_buildSlice (l := ([y33.1] : (List Val))) el43 (.cons rfl (fun _ _ h => h) .nil) rfl rfl (rd_t rfl rfl (t_appC (l := q18.2.1.l) (m := ([y33.1] : (List Val))) ap43_43 rfl (fun _ _ h => h) rfl appv_isv (.there (.there .here)) q36 fun t35 => rd_v rfl (v_fa rfl pt46_0_3 fd46_3) (rd_t rfl rfl (t_storeC (y' := ((q18.2.1.kind, q18.2.1.n, q18.2.1.b, (TList.mk t35 (q18.2.1.l ++ ([y33.1] : (List Val)))), q18.2.1.rule, q18.2.1.more) : (Int × Int × (List UInt8) × (TList Val) × Int × (List Raw)))) ty43 rfl rfl isvT2 (.there (.there .here)) rfl (rd_nil ?_))))))
         refine fin_block (fin_nxt (w_region (oV (v_add rfl rfl q37) (oM rfl ?_))))
         exact rl_nil (hL19 _ (t35) h _ (join_imp 20 rfl rfl (mod_cons (j := 61) rfl (fun _ _ h => h) mod_nil) (.cons .here (.cons .here (.cons .here (.cons .here .nil))))))
        ·
         refine rd_t rfl rfl (t_call (h_project_walker_value hy33) hT (.same rfl (.same rfl (.same rfl (.same rfl .nil)))) (.cons (.there (.there .here)) .nil) (fun R H' hR => ?_))
         obtain ⟨rfl, rfl⟩ := hR
         refine rd_two ?_ ?_
         ·
          refine rd_t rfl rfl (t_loadC (R := appv g18 (q18.2.1.l)) ty43 rfl (.there .here) isvT1 (rd_t rfl rfl (t_buildSlice (l := ([y33.1] : (List Val))) el43 (.cons rfl (fun _ _ h => h) .nil) rfl rfl (rd_t rfl rfl (t_appC (l := q18.2.1.l) (m := ([y33.1] : (List Val))) ap43_43 rfl (fun _ _ h => h) rfl appv_isv (.there (.there .here)) q36 fun t39 => rd_v rfl (v_fa rfl pt46_0_3 fd46_3) (rd_t rfl rfl (t_storeC (y' := ((q18.2.1.kind, q18.2.1.n, q18.2.1.b, (TList.mk t39 (q18.2.1.l ++ ([y33.1] : (List Val)))), q18.2.1.rule, q18.2.1.more) : (Int × Int × (List UInt8) × (TList Val) × Int × (List Raw)))) ty43 rfl rfl isvT2 (.there (.there .here)) rfl ?_)))))))
          refine rd_nil (fin_block (fin_nxt (w_region (oV (v_add rfl rfl q37) ?_))))
          exact oM rfl (rl_nil (hL19 _ (t39) h _ (join_imp 20 rfl rfl (mod_cons (j := 61) rfl (fun _ _ h => h) mod_nil) (.cons .here (.cons .here (.cons .here (.cons .here .nil)))))))
         ·
          refine rd_t rfl rfl (t_buildSlice (l := ([y33.1] : (List Val))) el43 (.cons rfl (fun _ _ h => h) .nil) rfl rfl (rd_t rfl rfl (t_loadC (R := appv g18 (q18.2.1.l)) ty43 rfl (.there .here) isvT1 (rd_t rfl rfl (t_appC (l := q18.2.1.l) (m := ([y33.1] : (List Val))) ap43_43 rfl (fun _ _ h => h) rfl appv_isv (.there (.there .here)) q36 fun t41 => rd_v rfl (v_fa rfl pt46_0_3 fd46_3) (rd_t rfl rfl (t_storeC (y' := ((q18.2.1.kind, q18.2.1.n, q18.2.1.b, (TList.mk t41 (q18.2.1.l ++ ([y33.1] : (List Val)))), q18.2.1.rule, q18.2.1.more) : (Int × Int × (List UInt8) × (TList Val) × Int × (List Raw)))) ty43 rfl rfl isvT2 (.there (.there .here)) rfl ?_)))))))
          refine rd_nil (fin_block (fin_nxt (w_region (oV (v_add rfl rfl q37) ?_))))
          exact oM rfl (rl_nil (hL19 _ (t41) h _ (join_imp 20 rfl rfl (mod_cons (j := 61) rfl (fun _ _ h => h) mod_nil) (.cons .here (.cons .here (.cons .here (.cons .here .nil)))))))
       ·
        refine w_exit (exi_nxt (eL19 _ _ (exi_block (fin_block ?_))))
        exact hJ16 _ (g18) h _ (join_imp 10 rfl rfl mod_nil (.cons .here (.cons .here (.cons .here (.cons .here .nil)))))
      ·
       refine wsr (oV (v_eql rfl rfl) (oA rfl (rnf (w_condM h rfl (fun _ h => ?_) (fun _ h => ?_)))))
       ·
        refine w_seq (wsr (oV (v_fi rfl Val.f1 fd46_1 rfl (z := a_v.n)) (oV (v_loadI ty2 rfl) (oV (v_fi rfl GTyp.f4 fd87_4 rfl (z := y3.2.1.fields)) ?_))))
        refine oV (v_loadI ty85 rfl) (oV (v_ln (l := y3.2.1.fields) rfl (fun _ _ h => h) sl85) (oV (v_geq rfl rfl) (rnf (w_condM h rfl (fun _ h => ?_) (fun _ h => ?_)))))
        ·
         refine wsr (oV (v_loadI ty46 rfl) (oT (t_storeC (y' := ((Val.mk (12 : Int) (0 : Int) ([] : (List UInt8)) ([] : (List Val)) (0 : Int) ([] : (List Raw))) : Val)) ty46 rfl rfl (fun _ _ h => h) (.there (.there .here)) rfl (rnf (w_ret ?_)))))
         refine ret_nxt (ret_block (ret_nxt (ret_post (.cell rfl .here ty46 .nil) (.cons (.there (.there (.there .here))) .nil) ?_)))
         obtain rfl := Option.some.inj h
         exact ⟨rfl, rfl⟩
        ·
         refine wkf (w_regionD (.v 0 (.v 1 (.v 2 (.v 3 (.v 4 (.v 5 (.v 6 (.v 7 (.v 8 (.v 9 (.v 10 (.v 11 (.v 12 (.v 13 (.v 14 (.v 15 (.v 16 (.v 17 (.v 18 (.t 19 (.t 20 (.v 21 (.t 22 .nil))))))))))))))))))))))) moOrd (by kernel_rfl) ?_)
         refine rvm rfl rfl (rd_v rfl (v_fi rfl GTyp.f4 fd87_4 rfl (z := y3.1.fields)) (rd_v rfl (v_loadI ty85 rfl) (rd_v rfl (v_fi rfl Val.f1 fd46_1 rfl (z := a_v.n)) (rd_v rfl (v_loadI ty2 rfl) ?_))))
         refine cal_inv h fun y43 hy43 h => rd_v rfl (v_ix (l := y3.1.fields) rfl (fun _ _ h => h) rfl sl85 hy43) (rd_v rfl (v_fi rfl GFld.f1 fd92_1 rfl (z := y43.ty)) (rd_v rfl (v_loadI ty3 rfl) (rd_v rfl (v_fi rfl GTyp.f4 fd87_4 rfl (z := y3.2.1.fields)) ?_)))
         refine rd_v rfl (v_loadI ty85 rfl) (rd_v rfl (v_fi rfl Val.f1 fd46_1 rfl (z := a_v.n)) (rd_v rfl (v_loadI ty2 rfl) (cal_inv h fun y44 hy44 h => rd_v rfl (v_ix (l := y3.2.1.fields) rfl (fun _ _ h => h) rfl sl85 hy44) ?_)))
         refine rd_v rfl (v_fi rfl GFld.f1 fd92_1 rfl (z := y44.ty)) (rd_v rfl (v_loadI ty3 rfl) (rd_v rfl (v_fi rfl Val.f3 fd46_3 rfl (z := a_v.l)) (rd_v rfl (v_loadI ty43 rfl) (cal_inv h fun y45 hy45 h => ?_))))
         refine rd_v rfl (v_ix (l := a_v.l) rfl (fun _ _ h => h) rfl sl43 hy45) (rd_v rfl (v_loadI ty46 rfl) (cal_inv h fun y46 hy46 h => rd_t rfl rfl (t_call (h_project_walker_value hy46) hT (.same rfl (.same rfl (.same rfl (.same rfl .nil)))) (.cons (.there (.there (.there .here))) .nil) (fun R H' hR => ?_))))
         obtain ⟨rfl, rfl⟩ := hR
         refine rd_t rfl rfl (t_buildSlice (l := ([y46.1] : (List Val))) el43 (.cons rfl (fun _ _ h => h) .nil) rfl rfl (rd_v rfl (v_fa rfl pt46_0_3 fd46_3) (rd_upd (upd_tok) (rd_t rfl rfl (t_storeC (y' := ((q6.kind, q6.n, q6.b, (TList.mk none ([y46.1] : (List Val))), q6.rule, q6.more) : (Int × Int × (List UInt8) × (TList Val) × Int × (List Raw)))) ty43 rfl rfl isvT2 (.there (.there .here)) rfl (rd_nil ?_))))))
         exact fin_block (hJ16 _ (none) h _ (join_imp 34 rfl rfl mod_nil (.cons .here (.cons .here (.cons .here (.cons (.there .here) .nil))))))
       ·
        refine w_seq (wsr (oV (v_eql rfl rfl) (oA rfl (rnf ?_))))
        refine w_J (jb 109) je .nil h (fun q48 g48 h => ?_) (fun J49 h hJ49 => ?_)
        ·
         refine w_condM h rfl (fun _ h => ?_) (fun _ h => ?_)
         ·
          refine w_region (oM rfl (oV (v_loadI ty87 rfl) (oV (v_loadI ty87 rfl) (oV (v_loadI ty46 rfl) ?_))))
          refine cal_inv h fun y50 hy50 h => oT (t_call (h_project_walker_fields hy50) hT (.same rfl (.same rfl (.same rfl (.same rfl .nil)))) (.cons (.there (.there (.there .here))) .nil) (fun R H' hR => ?_))
          obtain ⟨v51, rfl, rfl⟩ := hR
          refine oV (v_fa rfl pt46_0_3 fd46_3) (rl_upd (upd_vapp 116 .here rfl (by first | rfl | simp)) ?_)
          exact oT (t_storeC (y' := ((q6.kind, q6.n, q6.b, (TList.mk (vtok (Rep.n Val) v51 (y50.1).length) y50.1), q6.rule, q6.more) : (Int × Int × (List UInt8) × (TList Val) × Int × (List Raw)))) ty43 rfl rfl isvT2 (.there (.there .here)) rfl (rl_nil (fin_block (hJ16 _ ((vtok (Rep.n Val) v51 (y50.1).length)) h _ (join_imp 16 rfl rfl mod_nil (.cons .here (.cons .here (.cons .here (.cons (.there .here) .nil)))))))))
         ·
          exact w_skip (fin_block (hJ16 _ (g6.2) h _ (join_imp 9 rfl rfl mod_nil (.cons .here (.cons .here (.cons (.there .here) (.cons .here .nil)))))))
        ·
         refine w_condM h rfl (fun _ h => ?_) (fun _ h => ?_)
         ·
          exact w_skip (hJ49 _ () h _ (join_imp 0 rfl rfl (mod_cons (j := 109) rfl (fun _ _ h => h) mod_nil) (.cons .here (.cons .here (.cons .here (.cons .here .nil))))))
         ·
          exact w_region (oV (v_eql rfl rfl) (oA rfl (rl_nil (hJ49 _ () h _ (join_imp 2 rfl rfl (mod_cons (j := 109) rfl (fun _ _ h => h) mod_nil) (.cons .here (.cons .here (.cons .here (.cons .here .nil)))))))))
   ·
    refine w_regionD (.v 0 (.v 1 (.v 2 (.v 3 (.v 4 (.v 5 (.alt 6 (.v 7 (.t 8 (.t 9 .nil))) (.t 8 (.t 6 (.v 7 (.t 9 .nil))))))))))) moOrd (by kernel_rfl) ?_
    refine rd_v rfl (v_fi rfl Val.f0 fd46_0 rfl (z := a_v.kind)) (rd_v rfl (v_loadI ty3 rfl) (rd_v rfl (v_fi rfl Val.f1 fd46_1 rfl (z := a_v.n)) (rd_v rfl (v_loadI ty2 rfl) (rd_v rfl (v_fi rfl Val.f2 fd46_2 rfl (z := a_v.b)) ?_))))
    refine rd_v rfl (v_loadI ty42 rfl) (cal_inv h fun y8 hy8 h => rd_two ?_ ?_)
    ·
     refine rd_t rfl rfl (t_call (slices_Clone_Lbyte_byte_w hy8) hT (.same rfl .nil) .nil (fun R H' hR => ?_))
     obtain ⟨rfl, rfl⟩ := hR
     refine rd_v rfl (v_build (z := ((a_v.kind, a_v.n, y8, (TList.mk none ([] : (List Val))), (0 : Int), ([] : (List Raw))) : (Int × Int × (List UInt8) × (TList Val) × Int × (List Raw)))) rfl bu46 zt46_5 (.cons pt46_0_0 fd46_0 rfl (fun _ _ h => h) (.cons pt46_0_1 fd46_1 rfl (fun _ _ h => h) (.cons pt46_0_2 fd46_2 rfl (fun _ _ h => h) .nil)))) (rd_t rfl rfl (t_alloc _ zt46_5 fun b9 => rd_upd (upd_tok) (rd_upd (upd_tok) (rd_t rfl rfl (t_storeC (y' := ((a_v.kind, a_v.n, y8, (TList.mk none ([] : (List Val))), (0 : Int), ([] : (List Raw))) : (Int × Int × (List UInt8) × (TList Val) × Int × (List Raw)))) ty46 rfl rfl (fun _ _ h => h) (.there (.there .here)) rfl ?_)))))
     exact rd_nil (hJ7 _ (b9, none) h _ (join_imp 9 rfl rfl (mod_cons (j := 13) rfl (fun _ _ h => h) mod_nil) (.cons .here (.cons .here (.cons (.there .here) (.cons (.there .here) .nil))))))
    ·
     refine rd_t rfl rfl (t_alloc _ zt46_5 fun b12 => rd_upd (upd_tok) (rd_t rfl rfl (t_call (slices_Clone_Lbyte_byte_w hy8) hT (.same rfl .nil) .nil (fun R H' hR => ?_))))
     obtain ⟨rfl, rfl⟩ := hR
     refine rd_v rfl (v_build (z := ((a_v.kind, a_v.n, y8, (TList.mk none ([] : (List Val))), (0 : Int), ([] : (List Raw))) : (Int × Int × (List UInt8) × (TList Val) × Int × (List Raw)))) rfl bu46 zt46_5 (.cons pt46_0_0 fd46_0 rfl (fun _ _ h => h) (.cons pt46_0_1 fd46_1 rfl (fun _ _ h => h) (.cons pt46_0_2 fd46_2 rfl (fun _ _ h => h) .nil)))) (rd_upd (upd_tok) (rd_t rfl rfl (t_storeC (y' := ((a_v.kind, a_v.n, y8, (TList.mk none ([] : (List Val))), (0 : Int), ([] : (List Raw))) : (Int × Int × (List UInt8) × (TList Val) × Int × (List Raw)))) ty46 rfl rfl (fun _ _ h => h) (.there (.there .here)) rfl (rd_nil ?_))))
     exact hJ7 _ (b12, none) h _ (join_imp 9 rfl rfl (mod_cons (j := 13) rfl (fun _ _ h => h) mod_nil) (.cons .here (.cons .here (.cons (.there .here) (.cons (.there .here) .nil)))))

theorem project_walker_fields_grp_w : ∀ n, project_walker_fields_C (project_walker_fields n) ∧ project_walker_value_C (project_walker_value n)
 | 0 => ⟨fun h => (by cases h), fun h => (by cases h)⟩
 | n + 1 => by
  obtain ⟨h0, h1⟩ := project_walker_fields_grp_w n
  exact ⟨project_walker_fields_w0 h0 h1, project_walker_value_w0 h0 h1⟩
theorem project_walker_value_w (n : Nat) : project_walker_value_C (project_walker_value n) := (project_walker_fields_grp_w n).2

theorem project_Value_w : ∀ {a_a : GTab} {a_i : Int} {a_b : GTab} {a_k : Int} {a_v : Val} {r : Val × Int}, project_Value a_a a_i a_b a_k a_v = some r → Ctr Tryz.prog 37 [isv (a_a), isv (a_i), isv (a_b), isv (a_k), isv (a_v)] [] (fun R H => R = oneOf [isv (r.1), isv (r.2)] ∧ H = []) := by
 intro a_a a_i a_b a_k a_v r h
 unfold project_Value at h
 refine spec_intro Tryz.func37 rfl (by decide +kernel) (by rfl) fun w0 S0 hT => ?_
 refine wsr (oT (t_boxIC (y := a_a) rfl (fun _ _ h => h) (oT (t_boxIC (y := a_b) rfl (fun _ _ h => h) (oT (t_boxIC (y := a_v) rfl (fun _ _ h => h) (oT (t_alloc _ ze46 fun b1 => ?_))))))))
 refine oA rfl (rnf (w_seq (w_seq (w_regionD (.v 0 (.v 1 (.v 2 (.t 3 (.v 4 (.v 5 (.v 6 (.v 8 (.t 7 (.t 9 (.v 10 (.v 11 .nil)))))))))))) moOrd (by kernel_rfl) ?_))))
 refine rd_v rfl (v_loadI ty26 rfl) (rvm rfl rfl (rd_v rfl (v_loadI ty46 rfl) (cal_inv h fun y2 hy2 h => rd_t rfl rfl (t_call (value_FitsBare_w hy2) hT (.same rfl (.same rfl (.same rfl .nil))) .nil (fun R H' hR => ?_)))))
 obtain ⟨rfl, rfl⟩ := hR
 refine rd_v rfl (v_not rfl) (rvm rfl rfl (rd_j (jb 25) je .nil h 6 rfl (fun q3 g3 h => ?_) (fun J4 h hJ4 => ?_)))
 ·
  refine rd_nil (fin_nxt (w_condM h rfl (fun _ h => ?_) (fun _ h => ?_)))
  ·
   refine wsr (oV (v_build (z := (Val.mk (0 : Int) (0 : Int) ([] : (List UInt8)) ([] : (List Val)) (0 : Int) ([] : (List Raw)))) rfl bu46 ze46 .nil) (oT (t_storeC (y' := ((Val.mk (0 : Int) (0 : Int) ([] : (List UInt8)) ([] : (List Val)) (0 : Int) ([] : (List Raw))) : Val)) ty46 rfl rfl (fun _ _ h => h) .here rfl (oA rfl (rnf ?_)))))
   refine w_ret (ret_nxt (ret_post (.cell rfl .here ty46 (.tmp rfl .nil)) .nil ?_))
   obtain rfl := Option.some.inj h
   exact ⟨rfl, rfl⟩
  ·
   refine wkf (wsr (oV (v_loadI ty26 rfl) (oV (v_loadI ty26 rfl) (oV (v_build (z := (GSid.mk a_a a_b)) rfl bu120 ze120 (.cons GSid.f0 fd120_0 rfl (fun _ _ h => h) (.cons GSid.f1 fd120_1 rfl (fun _ _ h => h) .nil))) ?_))))
   refine oV (v_build (z := (GWlk.mk (GSid.mk a_a a_b) (0 : Int))) rfl bu122 ze122 (.cons GWlk.f0 fd122_0 rfl (fun _ _ h => h) .nil)) (oT (t_boxC (y := (GWlk.mk (GSid.mk a_a a_b) (0 : Int))) rfl (fun _ _ h => h) fun b8 => oA rfl (rnf (wsr ?_))))
   refine oM rfl (oM rfl (oM rfl (oV (v_loadI ty46 rfl) (cal_inv h fun y9 hy9 h => ?_))))
   refine oT (t_call (project_walker_value_w fuel hy9) hT (.same rfl (.same rfl (.same rfl (.same rfl .nil)))) (.cons .here .nil) (fun R H' hR => ?_))
   obtain ⟨rfl, rfl⟩ := hR
   refine oT (t_alloc _ ze46 fun b10 => oT (t_storeC (y' := (y9.1 : Val)) ty46 rfl rfl (fun _ _ h => h) .here rfl (rl_upd (upd_imm 13 .here rfl) (rnf (w_seq ?_)))))
   refine wsr (oM rfl (oV (v_nilCheck rfl) (oV (v_fa rfl GWlk.f1 fd122_1) (oT (t_loadC (R := isv (y9.2.e)) ty65 rfl .here (fun _ _ h => h) ?_)))))
   refine oV (v_neq rfl rfl) (rnf (w_condM h rfl (fun _ h => ?_) (fun _ h => ?_)))
   ·
    refine w_seq (w_pinN 12 .here rfl (fun o11 hn12 => w_regionD (.v 0 (.v 1 (.v 2 (.v 3 (.v 4 (.t 5 (.v 6 .nil))))))) moOrd (by kernel_rfl) ?_))
    refine rd_v rfl (v_build (z := (Val.mk (0 : Int) (0 : Int) ([] : (List UInt8)) ([] : (List Val)) (0 : Int) ([] : (List Raw)))) rfl bu46 ze46 .nil) (rvm rfl rfl (rd_v rfl (v_nilCheckP rfl) (rd_v rfl (v_fp rfl GWlk.f1 fd122_1) (rd_v rfl (v_lpC (R := isv (y9.2.e)) ty65 rfl (List.Mem.head _) (fun _ _ h => h)) ?_))))
    refine rd_t rfl rfl (t_storeC (y' := ((Val.mk (0 : Int) (0 : Int) ([] : (List UInt8)) ([] : (List Val)) (0 : Int) ([] : (List Raw))) : Val)) ty46 rfl rfl (fun _ _ h => h) .here rfl (rd_v rfl (v_assign rfl) (rd_nil (fin_unpinN 12 hn12 rfl (fin_nxt ?_)))))
    refine w_ret (ret_nxt (ret_post (.cell rfl (.there .here) ty46 (.tmp rfl .nil)) .nil ?_))
    obtain rfl := Option.some.inj h
    exact ⟨rfl, rfl⟩
   ·
    refine wkf (wsr (oV (v_loadI ty46 rfl) (oT (t_storeC (y' := (y9.1 : Val)) ty46 rfl rfl (fun _ _ h => h) (.there .here) rfl (oA rfl ?_)))))
    refine rnf (w_ret (ret_post (.cell rfl .here ty46 (.tmp rfl .nil)) .nil ?_))
    obtain rfl := Option.some.inj h
    exact ⟨rfl, rfl⟩
 ·
  refine rd_condM (j := 19) h rfl (fun g5 h => ?_) (fun g5 h => ?_)
  ·
   refine rpv 19 rfl rfl rfl g5 (rpv 19 rfl rfl rfl g5 (rd_passT rfl rfl (dj := 19) rfl g5 (rd_passT rfl rfl (dj := 19) rfl g5 (rpv 19 rfl rfl rfl g5 ?_))))
   exact rd_v rfl (v_pick_t rfl g5 rfl) (hJ4 _ () h _ (join_imp 6 rfl rfl (mod_cons (j := 25) rfl (fun _ _ h => h) mod_nil) (.cons .here .nil)))
  ·
   refine rvt 19 rfl rfl rfl g5 (v_loadI ty46 rfl) (rvt 19 rfl rfl rfl g5 (v_loadI ty46 rfl) (cal_inv h fun y6 hy6 h => rd_tt rfl rfl rfl (dj := 19) rfl g5 (t_call (value_Strip_w fuel hy6) hT (.same rfl .nil) .nil (fun R H' hR => ?_))))
   obtain ⟨rfl, rfl⟩ := hR
   refine cal_inv h fun y7 hy7 h => rd_tt rfl rfl rfl (dj := 19) rfl g5 (t_call (value_Same_w fuel hy7) hT (.same rfl (.same rfl .nil)) .nil (fun R H' hR => ?_))
   obtain ⟨rfl, rfl⟩ := hR
   exact rvt 19 rfl rfl rfl g5 (v_not rfl) (rd_v rfl (v_pick_f rfl g5 rfl) (hJ4 _ () h _ (join_imp 6 rfl rfl (mod_cons (j := 25) rfl (fun _ _ h => h) mod_nil) (.cons .here .nil))))


theorem law14_awake_w : ∀  {r : Bool}, law14_awake  = some r → Ctr Tryz.prog 36 [] [] (fun R H => R = oneOf [isv (r)] ∧ H = []) := by
 intro  r h
 unfold law14_awake at h
 refine spec_intro Tryz.func36 rfl (by decide +kernel) (by rfl) fun w0 S0 hT => ?_
 refine wsr (oA rfl (rnf (wsr (cal_inv h fun y1 hy1 h => ?_))))
 refine oT (t_call (oghamplay_Table_w hy1) hT (.same rfl .nil) .nil (fun R H' hR => ?_))
 obtain ⟨rfl, rfl⟩ := hR
 refine oM rfl (oV (v_extract rfl rfl) (oV (v_extract rfl rfl) (oT (t_alloc _ ze26 fun b2 => oT (t_storeC (y' := (y1.1 : GTab)) ty26 rfl rfl (fun _ _ h => h) .here rfl ?_)))))
 refine rl_upd (upd_imm 1 .here rfl) (oA rfl (rnf (wsr (oV (v_loadI ty26 rfl) ?_))))
 refine oV (v_loadI ty26 rfl) (oV (v_build (z := (Val.mk (2 : Int) (5 : Int) ([] : (List UInt8)) ([] : (List Val)) (0 : Int) ([] : (List Raw)))) rfl bu46 ze46 (.cons Val.f0 fd46_0 rfl (fun _ _ h => h) (.cons Val.f1 fd46_1 rfl (fun _ _ h => h) .nil))) (cal_inv h fun y3 hy3 h => oT (t_call (project_Value_w hy3) hT (.same rfl (.same rfl (.same rfl (.same rfl (.same rfl .nil))))) .nil (fun R H' hR => ?_))))
 obtain ⟨rfl, rfl⟩ := hR
 refine oM rfl (oV (v_extract rfl rfl) (oV (v_extract rfl rfl) (oT (t_alloc _ ze46 fun b4 => oT (t_storeC (y' := (y3.1 : Val)) ty46 rfl rfl (fun _ _ h => h) .here rfl ?_)))))
 refine rl_upd (upd_imm 3 .here rfl) (oA rfl (rnf (wsr (oM rfl ?_))))
 refine oM rfl (rl_j (jb 20) je .nil h 3 rfl (fun q5 g5 h => ?_) (fun J6 h hJ6 => ?_))
 ·
  refine oM rfl (rl_j (jb 25) je .nil h 4 rfl (fun q8 g8 h => ?_) (fun J9 h hJ9 => ?_))
  ·
   refine oA rfl (rnf (w_ret (ret_post (.tmp rfl .nil) .nil ?_)))
   obtain rfl := Option.some.inj h
   exact ⟨rfl, rfl⟩
  ·
   refine rl_condM (j := 21) h rfl (fun g10 h => ?_) (fun g10 h => ?_)
   ·
    exact oK 21 rfl rfl rfl g10 (v_fi rfl Val.f1 fd46_1 rfl (z := y3.1.n)) (oK 21 rfl rfl rfl g10 (v_loadI ty2 rfl) (oK 21 rfl rfl rfl g10 (v_eql rfl rfl) (oV (v_pick_t rfl g10 rfl) (hJ9 _ () h _ (ji 4 25 rfl rfl rfl)))))
   ·
    exact oP 21 rfl rfl g10 (oP 21 rfl rfl g10 (oP 21 rfl rfl g10 (oV (v_pick_f rfl g10 rfl) (hJ9 _ () h _ (ji 4 25 rfl rfl rfl)))))
 ·
  refine rl_condM (j := 17) h rfl (fun g7 h => ?_) (fun g7 h => ?_)
  ·
   exact oK 17 rfl rfl rfl g7 (v_move rfl) (oK 17 rfl rfl rfl g7 (v_eql rfl rfl) (oV (v_pick_t rfl g7 rfl) (hJ6 _ () h _ (ji 3 20 rfl rfl rfl))))
  ·
   exact oP 17 rfl rfl g7 (oP 17 rfl rfl g7 (oV (v_pick_f rfl g7 rfl) (hJ6 _ () h _ (ji 3 20 rfl rfl rfl))))

end Go.Proofs.YtnnijoepfgnlfaaGreatDoor

