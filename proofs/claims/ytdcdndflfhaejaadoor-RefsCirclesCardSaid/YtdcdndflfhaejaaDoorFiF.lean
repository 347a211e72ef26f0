/- What the laws of this seat share: the tables of utf8, as the rows list them, and a world in which they lie so. No condition: general lemmas. -/
import Derived.Test.YtdcdndflfhaejaaDoorFiA
import Derived.Test.YtdcdndflfhaejaaDoorFiB
import Derived.Test.YtdcdndflfhaejaaDoorFiC
import Derived.Test.YtdcdndflfhaejaaDoorFiD
import Derived.Test.YtdcdndflfhaejaaDoorFiE
import Derived.Lib.LaidIn
import Derived.Lib.LaidU8T
import Derived.Deep.DeepHandedRow
import Derived.Deep.DeepWitnessRowRef
import Derived.ProofKit
import Derived.KernelRfl
import Derived.Test.YtdcdndflfhaejaaDoorRows
set_option linter.unusedVariables false
set_option linter.unusedSimpArgs false

namespace Go.Proofs.YtdcdndflfhaejaaDoor
open Go.Sy
set_option maxRecDepth 4000
theorem law07_RefsMissing_w : ∀ {a_n_ : Int} {a_at_ : Int} {a_twice : Bool} {r : Bool}, law07_RefsMissing a_n_ a_at_ a_twice = some r → Ctr Tryd.prog 7 [isv (a_n_), isv (a_at_), isv (a_twice)] [] (fun R H => R = oneOf [isv (r)] ∧ H = []) := by
 intro a_n_ a_at_ a_twice r h
 unfold law07_RefsMissing at h
 refine spec_intro Tryd.func7 rfl (by decide +kernel) (by rfl) fun w0 S0 hT => ?_
 refine wsr ?_
 refine oV (v_assign rfl) ?_
 refine rnf ?_
 refine wsr ?_
 refine oV (v_move rfl) ?_
 refine oV (v_toU Tryd.underlying3 Tryd.underlying39 rfl) ?_
 refine asr_inv h fun q1 h => ?_
 refine oV (v_rem64 rfl rfl q1) ?_
 refine ck_inv h fun q2 h => ?_
 refine oV (v_u64i Tryd.underlying39 Tryd.underlying3 rfl q2) ?_
 refine ck_inv h fun q3 h => ?_
 refine oV (v_add rfl rfl q3) ?_
 refine oV (v_assign rfl) ?_
 refine rnf ?_
 refine wsr ?_
 refine oV (v_move rfl) ?_
 refine oV (v_toU Tryd.underlying3 Tryd.underlying39 rfl) ?_
 refine oV (v_move rfl) ?_
 refine oV (v_toU Tryd.underlying3 Tryd.underlying39 rfl) ?_
 refine asr_inv h fun q4 h => ?_
 refine oV (v_rem64 rfl rfl q4) ?_
 refine ck_inv h fun q5 h => ?_
 refine oV (v_u64i Tryd.underlying39 Tryd.underlying3 rfl q5) ?_
 refine oV (v_assign rfl) ?_
 refine rnf ?_
 refine wsr ?_
 refine oV (v_assign rfl) ?_
 refine rnf ?_
 refine w_seq ?_
 refine wsr ?_
 refine oV (v_assign rfl) ?_
 refine rnf ?_
 refine w_block ?_
 refine w_lp (ι := Str × Int) (γ := Unit) (fun q6 g6 => [(7, isv (q6.1)), (8, isv (q6.2))]) (fun q6 g6 => []) h () (mod_cons (j := 7) rfl (fun _ _ h => h) (mod_cons (j := 8) rfl (fun _ _ h => h) mod_nil)) .nil (fun L7 q6 g6 Q102 h hL7 eL7 rL7 => ?_)
 refine w_seq ?_
 refine wsr ?_
 refine oV (v_move rfl) ?_
 refine oV (v_move rfl) ?_
 refine oV (v_lss rfl rfl) ?_
 refine rnf ?_
 refine w_condM h rfl (fun _ h => ?_) (fun _ h => ?_)
 ·
  refine wkf ?_
  refine w_seq ?_
  refine w_block ?_
  refine wsr ?_
  refine oV (v_move rfl) ?_
  refine oV (v_toU Tryd.underlying3 Tryd.underlying41 rfl) ?_
  refine cal_inv h fun y55 hy55 h => ?_
  refine oT (t_call (h_Digits_w fuel hy55) hT (.same rfl .nil) .nil (fun R H' hR => ?_))
  obtain ⟨rfl, rfl⟩ := hR
  refine asr_inv h fun q56 h => ?_
  refine oV (v_cat rfl rfl q56) ?_
  refine oV (v_assign rfl) ?_
  refine oV (v_assign rfl) ?_
  refine rnf ?_
  refine w_seq ?_
  refine wsr ?_
  refine oV (v_move rfl) ?_
  refine oV (v_move rfl) ?_
  refine oV (v_eql rfl rfl) ?_
  refine rnf ?_
  refine w_J (ι := Str) (γ := Unit) (fun q57 g57 => [(10, isv (q57))]) (fun q57 g57 => []) .nil h (fun q57 g57 h => ?_) (fun J58 h hJ58 => ?_)
  ·
   refine w_seq ?_
   refine wsr ?_
   refine oV (v_move rfl) ?_
   refine oV (v_move rfl) ?_
   refine rl_j (ι := Bool) (γ := Unit) (fun q59 g59 => [(46, isv (q59))]) (fun q59 g59 => []) .nil h 5 rfl (fun q59 g59 h => ?_) (fun J60 h hJ60 => ?_)
   ·
    refine rnf ?_
    refine w_J (ι := Str) (γ := Unit) (fun q63 g63 => [(9, isv (q63))]) (fun q63 g63 => []) .nil h (fun q63 g63 h => ?_) (fun J64 h hJ64 => ?_)
    ·
     refine w_region ?_
     refine oV (v_move rfl) ?_
     refine asr_inv h fun q65 h => ?_
     refine oV (v_cat rfl rfl q65) ?_
     refine oV (v_move rfl) ?_
     refine asr_inv h fun q66 h => ?_
     refine oV (v_cat rfl rfl q66) ?_
     refine asr_inv h fun q67 h => ?_
     refine oV (v_cat rfl rfl q67) ?_
     refine oV (v_move rfl) ?_
     refine asr_inv h fun q68 h => ?_
     refine oV (v_cat rfl rfl q68) ?_
     refine oV (v_assign rfl) ?_
     refine rl_nil ?_
     refine fin_block ?_
     refine fin_nxt ?_
     refine w_region ?_
     refine oV (v_move rfl) ?_
     refine ck_inv h fun q69 h => ?_
     refine oV (v_add rfl rfl q69) ?_
     refine oV (v_assign rfl) ?_
     refine rl_nil ?_
     exact hL7 _ () h _ (join_imp 30 rfl rfl (mod_cons (j := 7) rfl (fun _ _ h => h) (mod_cons (j := 8) rfl (fun _ _ h => h) mod_nil)) .nil)
    ·
     refine w_condM h rfl (fun _ h => ?_) (fun _ h => ?_)
     ·
      refine w_region ?_
      refine oV (v_assign rfl) ?_
      refine rl_nil ?_
      exact hJ64 _ () h _ (join_imp 1 rfl rfl (mod_cons (j := 9) rfl (fun _ _ h => h) mod_nil) .nil)
     ·
      refine w_skip ?_
      exact hJ64 _ () h _ (join_imp 0 rfl rfl (mod_cons (j := 9) rfl (fun _ _ h => h) mod_nil) .nil)
   ·
    refine rl_condM (j := 41) h rfl (fun g61 h => ?_) (fun g61 h => ?_)
    ·
     refine op_take rfl rfl (dj := 41) rfl g61 (OpV.t (v_move rfl) ?_)
     refine op_take rfl rfl (dj := 41) rfl g61 (OpV.t (v_move rfl) ?_)
     refine ck_inv h fun q62 h => ?_
     refine op_take rfl rfl (dj := 41) rfl g61 (OpV.t (v_sub rfl rfl q62) ?_)
     refine op_take rfl rfl (dj := 41) rfl g61 (OpV.t (v_eql rfl rfl) ?_)
     refine oV (v_pick_t rfl g61 rfl) ?_
     exact hJ60 _ () h _ (join_imp 5 rfl rfl (mod_cons (j := 46) rfl (fun _ _ h => h) mod_nil) .nil)
    ·
     refine op_pass rfl (dj := 41) rfl g61 ?_
     refine op_pass rfl (dj := 41) rfl g61 ?_
     refine op_pass rfl (dj := 41) rfl g61 ?_
     refine op_pass rfl (dj := 41) rfl g61 ?_
     refine oV (v_pick_f rfl g61 rfl) ?_
     exact hJ60 _ () h _ (join_imp 5 rfl rfl (mod_cons (j := 46) rfl (fun _ _ h => h) mod_nil) .nil)
  ·
   refine w_condM h rfl (fun _ h => ?_) (fun _ h => ?_)
   ·
    refine w_region ?_
    refine oV (v_assign rfl) ?_
    refine rl_nil ?_
    exact hJ58 _ () h _ (join_imp 1 rfl rfl (mod_cons (j := 10) rfl (fun _ _ h => h) mod_nil) .nil)
   ·
    refine w_skip ?_
    exact hJ58 _ () h _ (join_imp 0 rfl rfl (mod_cons (j := 10) rfl (fun _ _ h => h) mod_nil) .nil)
 ·
  refine w_exit ?_
  refine exi_nxt ?_
  refine eL7 _ _ ?_
  refine exi_block ?_
  refine fin_nxt ?_
  refine wsr ?_
  refine oV (v_move rfl) ?_
  refine asr_inv h fun q70 h => ?_
  refine oV (v_cat rfl rfl q70) ?_
  refine asr_inv h fun q71 h => ?_
  refine oV (v_cat rfl rfl q71) ?_
  refine cal_inv h fun y72 hy72 h => ?_
  refine oT (t_call (r05_Parse_w hy72) hT (.same rfl .nil) .nil (fun R H' hR => ?_))
  obtain ⟨rfl, rfl⟩ := hR
  refine oV (v_move rfl) ?_
  refine oV (v_extract rfl rfl) ?_
  refine oV (v_extract rfl rfl) ?_
  refine oV (v_extract rfl rfl) ?_
  refine oT (t_alloc _ ze26 fun b73 => ?_)
  refine oT (t_storeC (y' := (y72.1 : GMod)) ty26 rfl rfl (fun _ _ h => h) .here rfl ?_)
  refine rl_upd (upd_imm 11 .here rfl) ?_
  refine oV (v_assign rfl) ?_
  refine oV (v_assign rfl) ?_
  refine rnf ?_
  refine wsr ?_
  refine oV (v_loadI ty26 rfl) ?_
  refine cal_inv h fun y74 hy74 h => ?_
  refine oT (t_call (refs_Order_w hy74) hT (.same rfl .nil) .nil (fun R H' hR => ?_))
  obtain ⟨rfl, rfl⟩ := hR
  refine oV (v_move rfl) ?_
  refine oV (v_extract rfl rfl) ?_
  refine oV (v_extract rfl rfl) ?_
  refine oV (v_extract rfl rfl) ?_
  refine oV (v_assign rfl) ?_
  refine oV (v_assign rfl) ?_
  refine oV (v_assign rfl) ?_
  refine rnf ?_
  refine w_seq ?_
  refine wsr ?_
  refine oV (v_move rfl) ?_
  refine rnf ?_
  refine w_condM h rfl (fun _ h => ?_) (fun _ h => ?_)
  ·
   refine wsr ?_
   refine cal_inv h fun y75 hy75 h => ?_
   refine oT (t_call (law07_awake_w hy75) hT .nil .nil (fun R H' hR => ?_))
   obtain ⟨rfl, rfl⟩ := hR
   refine oV (v_move rfl) ?_
   refine rl_j (ι := Bool) (γ := Unit) (fun q76 g76 => [(73, isv (q76))]) (fun q76 g76 => []) .nil h 3 rfl (fun q76 g76 h => ?_) (fun J77 h hJ77 => ?_)
   ·
    refine oV (v_move rfl) ?_
    refine rl_j (ι := Bool) (γ := Unit) (fun q79 g79 => [(77, isv (q79))]) (fun q79 g79 => []) .nil h 3 rfl (fun q79 g79 h => ?_) (fun J80 h hJ80 => ?_)
    ·
     refine oV (v_move rfl) ?_
     refine rl_j (ι := Bool) (γ := Unit) (fun q82 g82 => [(83, isv (q82))]) (fun q82 g82 => []) .nil h 5 rfl (fun q82 g82 h => ?_) (fun J83 h hJ83 => ?_)
     ·
      refine oV (v_move rfl) ?_
      refine rl_j (ι := Bool) (γ := Unit) (fun q86 g86 => [(88, isv (q86))]) (fun q86 g86 => []) .nil h 4 rfl (fun q86 g86 h => ?_) (fun J87 h hJ87 => ?_)
      ·
       refine oV (v_assign rfl) ?_
       refine rnf ?_
       refine w_ret ?_
       refine ret_nxt ?_
       refine ret_post (.tmp rfl .nil) .nil ?_
       obtain rfl := Option.some.inj h
       exact ⟨rfl, rfl⟩
      ·
       refine rl_condM (j := 84) h rfl (fun g88 h => ?_) (fun g88 h => ?_)
       ·
        refine op_take rfl rfl (dj := 84) rfl g88 (OpV.t (v_move rfl) ?_)
        refine op_take rfl rfl (dj := 84) rfl g88 (OpV.t (v_ln (l := y74.1) rfl (fun _ _ h => h) sl23) ?_)
        refine op_take rfl rfl (dj := 84) rfl g88 (OpV.t (v_eql rfl rfl) ?_)
        refine oV (v_pick_t rfl g88 rfl) ?_
        exact hJ87 _ () h _ (join_imp 4 rfl rfl (mod_cons (j := 88) rfl (fun _ _ h => h) mod_nil) .nil)
       ·
        refine op_pass rfl (dj := 84) rfl g88 ?_
        refine op_pass rfl (dj := 84) rfl g88 ?_
        refine op_pass rfl (dj := 84) rfl g88 ?_
        refine oV (v_pick_f rfl g88 rfl) ?_
        exact hJ87 _ () h _ (join_imp 4 rfl rfl (mod_cons (j := 88) rfl (fun _ _ h => h) mod_nil) .nil)
     ·
      refine rl_condM (j := 78) h rfl (fun g84 h => ?_) (fun g84 h => ?_)
      ·
       refine op_take rfl rfl (dj := 78) rfl g84 (OpV.t (v_move rfl) ?_)
       refine op_take rfl rfl (dj := 78) rfl g84 (OpV.t (v_move rfl) ?_)
       refine ck_inv h fun q85 h => ?_
       refine op_take rfl rfl (dj := 78) rfl g84 (OpV.t (v_sub rfl rfl q85) ?_)
       refine op_take rfl rfl (dj := 78) rfl g84 (OpV.t (v_eql rfl rfl) ?_)
       refine oV (v_pick_t rfl g84 rfl) ?_
       exact hJ83 _ () h _ (join_imp 5 rfl rfl (mod_cons (j := 83) rfl (fun _ _ h => h) mod_nil) .nil)
      ·
       refine op_pass rfl (dj := 78) rfl g84 ?_
       refine op_pass rfl (dj := 78) rfl g84 ?_
       refine op_pass rfl (dj := 78) rfl g84 ?_
       refine op_pass rfl (dj := 78) rfl g84 ?_
       refine oV (v_pick_f rfl g84 rfl) ?_
       exact hJ83 _ () h _ (join_imp 5 rfl rfl (mod_cons (j := 83) rfl (fun _ _ h => h) mod_nil) .nil)
    ·
     refine rl_condM (j := 74) h rfl (fun g81 h => ?_) (fun g81 h => ?_)
     ·
      refine op_take rfl rfl (dj := 74) rfl g81 (OpV.t (v_move rfl) ?_)
      refine op_take rfl rfl (dj := 74) rfl g81 (OpV.t (v_eql rfl rfl) ?_)
      refine oV (v_pick_t rfl g81 rfl) ?_
      exact hJ80 _ () h _ (join_imp 3 rfl rfl (mod_cons (j := 77) rfl (fun _ _ h => h) mod_nil) .nil)
     ·
      refine op_pass rfl (dj := 74) rfl g81 ?_
      refine op_pass rfl (dj := 74) rfl g81 ?_
      refine oV (v_pick_f rfl g81 rfl) ?_
      exact hJ80 _ () h _ (join_imp 3 rfl rfl (mod_cons (j := 77) rfl (fun _ _ h => h) mod_nil) .nil)
   ·
    refine rl_condM (j := 70) h rfl (fun g78 h => ?_) (fun g78 h => ?_)
    ·
     refine op_take rfl rfl (dj := 70) rfl g78 (OpV.t (v_move rfl) ?_)
     refine op_take rfl rfl (dj := 70) rfl g78 (OpV.t (v_eql rfl rfl) ?_)
     refine oV (v_pick_t rfl g78 rfl) ?_
     exact hJ77 _ () h _ (join_imp 3 rfl rfl (mod_cons (j := 73) rfl (fun _ _ h => h) mod_nil) .nil)
    ·
     refine op_pass rfl (dj := 70) rfl g78 ?_
     refine op_pass rfl (dj := 70) rfl g78 ?_
     refine oV (v_pick_f rfl g78 rfl) ?_
     exact hJ77 _ () h _ (join_imp 3 rfl rfl (mod_cons (j := 73) rfl (fun _ _ h => h) mod_nil) .nil)
  ·
   refine wkf ?_
   refine wsr ?_
   refine cal_inv h fun y89 hy89 h => ?_
   refine oT (t_call (law07_awake_w hy89) hT .nil .nil (fun R H' hR => ?_))
   obtain ⟨rfl, rfl⟩ := hR
   refine oV (v_move rfl) ?_
   refine rl_j (ι := Bool) (γ := Unit) (fun q90 g90 => [(93, isv (q90))]) (fun q90 g90 => []) .nil h 3 rfl (fun q90 g90 h => ?_) (fun J91 h hJ91 => ?_)
   ·
    refine oV (v_move rfl) ?_
    refine rl_j (ι := Bool) (γ := Unit) (fun q93 g93 => [(97, isv (q93))]) (fun q93 g93 => []) .nil h 3 rfl (fun q93 g93 h => ?_) (fun J94 h hJ94 => ?_)
    ·
     refine oV (v_move rfl) ?_
     refine rl_j (ι := Bool) (γ := Unit) (fun q96 g96 => [(102, isv (q96))]) (fun q96 g96 => []) .nil h 4 rfl (fun q96 g96 h => ?_) (fun J97 h hJ97 => ?_)
     ·
      refine oV (v_move rfl) ?_
      refine rl_j (ι := Bool) (γ := Unit) (fun q99 g99 => [(107, isv (q99))]) (fun q99 g99 => []) .nil h 4 rfl (fun q99 g99 h => ?_) (fun J100 h hJ100 => ?_)
      ·
       refine oV (v_assign rfl) ?_
       refine rnf ?_
       refine w_ret ?_
       refine ret_post (.tmp rfl .nil) .nil ?_
       obtain rfl := Option.some.inj h
       exact ⟨rfl, rfl⟩
      ·
       refine rl_condM (j := 103) h rfl (fun g101 h => ?_) (fun g101 h => ?_)
       ·
        refine op_take rfl rfl (dj := 103) rfl g101 (OpV.t (v_move rfl) ?_)
        refine op_take rfl rfl (dj := 103) rfl g101 (OpV.t (v_ln (l := y74.1) rfl (fun _ _ h => h) sl23) ?_)
        refine op_take rfl rfl (dj := 103) rfl g101 (OpV.t (v_eql rfl rfl) ?_)
        refine oV (v_pick_t rfl g101 rfl) ?_
        exact hJ100 _ () h _ (join_imp 4 rfl rfl (mod_cons (j := 107) rfl (fun _ _ h => h) mod_nil) .nil)
       ·
        refine op_pass rfl (dj := 103) rfl g101 ?_
        refine op_pass rfl (dj := 103) rfl g101 ?_
        refine op_pass rfl (dj := 103) rfl g101 ?_
        refine oV (v_pick_f rfl g101 rfl) ?_
        exact hJ100 _ () h _ (join_imp 4 rfl rfl (mod_cons (j := 107) rfl (fun _ _ h => h) mod_nil) .nil)
     ·
      refine rl_condM (j := 98) h rfl (fun g98 h => ?_) (fun g98 h => ?_)
      ·
       refine op_take rfl rfl (dj := 98) rfl g98 (OpV.t (v_move rfl) ?_)
       refine op_take rfl rfl (dj := 98) rfl g98 (OpV.t (v_move rfl) ?_)
       refine op_take rfl rfl (dj := 98) rfl g98 (OpV.t (v_eql rfl rfl) ?_)
       refine oV (v_pick_t rfl g98 rfl) ?_
       exact hJ97 _ () h _ (join_imp 4 rfl rfl (mod_cons (j := 102) rfl (fun _ _ h => h) mod_nil) .nil)
      ·
       refine op_pass rfl (dj := 98) rfl g98 ?_
       refine op_pass rfl (dj := 98) rfl g98 ?_
       refine op_pass rfl (dj := 98) rfl g98 ?_
       refine oV (v_pick_f rfl g98 rfl) ?_
       exact hJ97 _ () h _ (join_imp 4 rfl rfl (mod_cons (j := 102) rfl (fun _ _ h => h) mod_nil) .nil)
    ·
     refine rl_condM (j := 94) h rfl (fun g95 h => ?_) (fun g95 h => ?_)
     ·
      refine op_take rfl rfl (dj := 94) rfl g95 (OpV.t (v_move rfl) ?_)
      refine op_take rfl rfl (dj := 94) rfl g95 (OpV.t (v_eql rfl rfl) ?_)
      refine oV (v_pick_t rfl g95 rfl) ?_
      exact hJ94 _ () h _ (join_imp 3 rfl rfl (mod_cons (j := 97) rfl (fun _ _ h => h) mod_nil) .nil)
     ·
      refine op_pass rfl (dj := 94) rfl g95 ?_
      refine op_pass rfl (dj := 94) rfl g95 ?_
      refine oV (v_pick_f rfl g95 rfl) ?_
      exact hJ94 _ () h _ (join_imp 3 rfl rfl (mod_cons (j := 97) rfl (fun _ _ h => h) mod_nil) .nil)
   ·
    refine rl_condM (j := 90) h rfl (fun g92 h => ?_) (fun g92 h => ?_)
    ·
     refine op_take rfl rfl (dj := 90) rfl g92 (OpV.t (v_move rfl) ?_)
     refine op_take rfl rfl (dj := 90) rfl g92 (OpV.t (v_eql rfl rfl) ?_)
     refine oV (v_pick_t rfl g92 rfl) ?_
     exact hJ91 _ () h _ (join_imp 3 rfl rfl (mod_cons (j := 93) rfl (fun _ _ h => h) mod_nil) .nil)
    ·
     refine op_pass rfl (dj := 90) rfl g92 ?_
     refine op_pass rfl (dj := 90) rfl g92 ?_
     refine oV (v_pick_f rfl g92 rfl) ?_
     exact hJ91 _ () h _ (join_imp 3 rfl rfl (mod_cons (j := 93) rfl (fun _ _ h => h) mod_nil) .nil)


theorem law07_RefsChain_w : ∀ {a_turns : (List Int)} {r : Bool}, law07_RefsChain a_turns = some r → Ctr Tryd.prog 6 [isv (a_turns)] [] (fun R H => R = oneOf [isv (r)] ∧ H = []) := by
 intro a_turns r h
 unfold law07_RefsChain at h
 refine spec_intro Tryd.func6 rfl (by decide +kernel) (by rfl) fun w0 S0 hT => ?_
 refine wsr ?_
 refine oV (v_assign rfl) ?_
 refine rnf ?_
 refine wsr ?_
 refine oV (v_move rfl) ?_
 refine oV (v_ln (l := a_turns) rfl (fun _ _ h => h) sl23) ?_
 refine oV (v_assign rfl) ?_
 refine rnf ?_
 refine w_seq ?_
 refine wsr ?_
 refine oV (v_move rfl) ?_
 refine oV (v_eql rfl rfl) ?_
 refine oV (v_move rfl) ?_
 refine rl_j (ι := Bool) (γ := Unit) (fun q1 g1 => [(25, isv (q1))]) (fun q1 g1 => []) .nil h 3 rfl (fun q1 g1 h => ?_) (fun J2 h hJ2 => ?_)
 ·
  refine rnf ?_
  refine w_condM h rfl (fun _ h => ?_) (fun _ h => ?_)
  ·
   refine wsr ?_
   refine cal_inv h fun y4 hy4 h => ?_
   refine oT (t_call (law07_awake_w hy4) hT .nil .nil (fun R H' hR => ?_))
   obtain ⟨rfl, rfl⟩ := hR
   refine oV (v_assign rfl) ?_
   refine rnf ?_
   refine w_ret ?_
   refine ret_nxt ?_
   refine ret_post (.tmp rfl .nil) .nil ?_
   obtain rfl := Option.some.inj h
   exact ⟨rfl, rfl⟩
  ·
   refine wkf ?_
   refine wsr ?_
   refine oV (v_assign rfl) ?_
   refine rl_upd (upd_vec (α := Int)) ?_
   refine rl_upd (upd_slot 4 rfl nilvV) ?_
   refine rnf ?_
   refine w_seq ?_
   refine wsr ?_
   refine oV (v_assign rfl) ?_
   refine rnf ?_
   refine w_block ?_
   refine w_lp (ι := (List Int) × Int) (γ := Vt) (fun q6 g6 => [(4, vecv g6 (q6.1.length)), (5, isv (q6.2))]) (fun q6 g6 => [vecE g6 (q6.1 : List Int)]) h (none) (mod_cons (j := 4) rfl (vecvE (by first | rfl | simp)) (mod_cons (j := 5) rfl (fun _ _ h => h) mod_nil)) (.cons .here .nil) (fun L7 q6 g6 Q880 h hL7 eL7 rL7 => ?_)
   refine w_seq ?_
   refine wsr ?_
   refine oV (v_move rfl) ?_
   refine oV (v_move rfl) ?_
   refine oV (v_lss rfl rfl) ?_
   refine rnf ?_
   refine w_condM h rfl (fun _ h => ?_) (fun _ h => ?_)
   ·
    refine wkf ?_
    refine w_seq ?_
    refine w_block ?_
    refine w_region ?_
    refine oV (v_move rfl) ?_
    refine oV (v_move rfl) ?_
    refine oT (t_buildSlice (l := ([q6.2] : (List Int))) el23 (.cons rfl (fun _ _ h => h) .nil) rfl rfl ?_)
    refine asr_inv h fun q446 h => ?_
    refine oT (t_vappF (m := ([q6.2] : (List Int))) ap23_23 rfl rfl appv_isv .here (by first | rfl | simp) q446 fun v445 => ?_)
    refine oV (v_assign rfl) ?_
    refine rl_nil ?_
    refine fin_block ?_
    refine fin_nxt ?_
    refine w_region ?_
    refine oV (v_move rfl) ?_
    refine ck_inv h fun q447 h => ?_
    refine oV (v_add rfl rfl q447) ?_
    refine oV (v_assign rfl) ?_
    refine rl_nil ?_
    exact hL7 _ (v445) h _ (join_imp 13 rfl rfl (mod_cons (j := 4) rfl (vecvE (by first | rfl | simp)) (mod_cons (j := 5) rfl (fun _ _ h => h) mod_nil)) (.cons .here .nil))
   ·
    refine w_exit ?_
    refine exi_nxt ?_
    refine eL7 _ _ ?_
    refine exi_block ?_
    refine fin_nxt ?_
    refine w_seq ?_
    refine wsr ?_
    refine oV (v_assign rfl) ?_
    refine rnf ?_
    refine w_block ?_
    refine w_lp (ι := (List Int) × Int) (γ := Unit) (fun q448 g448 => [(6, isv (q448.2)), (4, vecv g6 (q448.1.length))]) (fun q448 g448 => [vecE g6 (q448.1 : List Int)]) h () (mod_cons (j := 6) rfl (fun _ _ h => h) (mod_cons (j := 4) rfl (vecvE (by first | rfl | simp)) mod_nil)) (.cons .here .nil) (fun L449 q448 g448 Q879 h hL449 eL449 rL449 => ?_)
    refine w_seq ?_
    refine wsr ?_
    refine oV (v_move rfl) ?_
    refine oV (v_move rfl) ?_
    refine oV (v_lss rfl rfl) ?_
    refine rnf ?_
    refine w_condM h rfl (fun _ h => ?_) (fun _ h => ?_)
    ·
     refine wkf ?_
     refine w_seq ?_
     refine w_block ?_
     refine wsr ?_
     refine oV (v_move rfl) ?_
     refine oV (v_move rfl) ?_
     refine cal_inv h fun y736 hy736 h => ?_
     refine oV (v_ix (l := a_turns) rfl (fun _ _ h => h) rfl sl23 hy736) ?_
     refine oV (v_loadI ty3 rfl) ?_
     refine oV (v_toU Tryd.underlying3 Tryd.underlying39 rfl) ?_
     refine oV (v_move rfl) ?_
     refine oV (v_toU Tryd.underlying3 Tryd.underlying39 rfl) ?_
     refine asr_inv h fun q737 h => ?_
     refine oV (v_rem64 rfl rfl q737) ?_
     refine ck_inv h fun q738 h => ?_
     refine oV (v_u64i Tryd.underlying39 Tryd.underlying3 rfl q738) ?_
     refine oV (v_assign rfl) ?_
     refine rnf ?_
     refine w_regionD (.v 0 (.v 1 (.v 2 (.v 3 (.v 4 (.v 5 (.v 6 (.v 8 (.v 9 (.v 10 (.alt 7 (.t 11 (.v 12 (.t 13 (.v 14 (.t 15 .nil))))) (.t 11 (.t 7 (.v 12 (.t 13 (.v 14 (.t 15 .nil))))))))))))))))) moOrd (by kernel_rfl) ?_
     refine rd_v rfl (v_move rfl) ?_
     refine rd_v rfl (v_move rfl) ?_
     refine rd_v rfl (v_move rfl) ?_
     refine rd_v rfl (v_move rfl) ?_
     refine rd_v rfl (v_move rfl) ?_
     refine rd_v rfl (v_move rfl) ?_
     refine asd_inv h fun q739 h => ?_
     refine rd_v rfl (v_vidx (α := Int) sl23 rfl rfl q739.1 q739.2) ?_
     refine rd_v rfl (v_move rfl) ?_
     refine rd_v rfl (v_move rfl) ?_
     refine asd_inv h fun q740 h => ?_
     refine rd_v rfl (v_vidx (α := Int) sl23 rfl rfl q740.1 q740.2) ?_
     refine cal_inv h fun y741 hy741 h => ?_
     refine cal_inv h fun y742 hy742 h => ?_
     refine asd_inv h fun q743 h => ?_
     refine cal_inv h fun y744 hy744 h => ?_
     refine asd_inv h fun q745 h => ?_
     refine cal_inv h fun y746 hy746 h => ?_
     refine ck_inv h fun q747 h => ?_
     refine rd_two ?_ ?_
     ·
      refine rd_t rfl rfl (t_vload ty3 rfl .here hy741 ?_)
      refine rd_t rfl rfl (t_vload ty3 rfl .here hy742 ?_)
      refine rd_v rfl (v_vidx (α := Int) sl23 rfl rfl q743.1 q743.2) ?_
      refine rd_t rfl rfl (t_vstore ty3 rfl rfl .here hy744 ?_)
      refine rd_v rfl (v_vidx (α := Int) sl23 rfl rfl q745.1 q745.2) ?_
      refine rd_t rfl rfl (t_vstore ty3 rfl rfl .here hy746 ?_)
      refine rd_nil ?_
      refine fin_block ?_
      refine fin_nxt ?_
      refine w_region ?_
      refine oV (v_move rfl) ?_
      refine oV (v_add rfl rfl q747) ?_
      refine oV (v_assign rfl) ?_
      refine rl_nil ?_
      exact hL449 _ () h _ (join_imp 32 rfl rfl (mod_cons (j := 6) rfl (fun _ _ h => h) (mod_cons (j := 4) rfl (vecvE (by first | rfl | simp)) mod_nil)) (.cons .here .nil))
     ·
      refine rd_t rfl rfl (t_vload ty3 rfl .here hy742 ?_)
      refine rd_t rfl rfl (t_vload ty3 rfl .here hy741 ?_)
      refine rd_v rfl (v_vidx (α := Int) sl23 rfl rfl q743.1 q743.2) ?_
      refine rd_t rfl rfl (t_vstore ty3 rfl rfl .here hy744 ?_)
      refine rd_v rfl (v_vidx (α := Int) sl23 rfl rfl q745.1 q745.2) ?_
      refine rd_t rfl rfl (t_vstore ty3 rfl rfl .here hy746 ?_)
      refine rd_nil ?_
      refine fin_block ?_
      refine fin_nxt ?_
      refine w_region ?_
      refine oV (v_move rfl) ?_
      refine oV (v_add rfl rfl q747) ?_
      refine oV (v_assign rfl) ?_
      refine rl_nil ?_
      exact hL449 _ () h _ (join_imp 32 rfl rfl (mod_cons (j := 6) rfl (fun _ _ h => h) (mod_cons (j := 4) rfl (vecvE (by first | rfl | simp)) mod_nil)) (.cons .here .nil))
    ·
     refine w_exit ?_
     refine exi_nxt ?_
     refine eL449 _ _ ?_
     refine exi_block ?_
     refine fin_nxt ?_
     refine wsr ?_
     refine oV (v_assign rfl) ?_
     refine rnf ?_
     refine w_seq ?_
     refine wsr ?_
     refine oV (v_assign rfl) ?_
     refine rnf ?_
     refine w_block ?_
     refine w_lp (ι := Str × Int) (γ := Unit) (fun q748 g748 => [(8, isv (q748.1)), (9, isv (q748.2))]) (fun q748 g748 => []) h () (mod_cons (j := 8) rfl (fun _ _ h => h) (mod_cons (j := 9) rfl (fun _ _ h => h) mod_nil)) .nil (fun L749 q748 g748 Q878 h hL749 eL749 rL749 => ?_)
     refine w_seq ?_
     refine wsr ?_
     refine oV (v_move rfl) ?_
     refine oV (v_move rfl) ?_
     refine oV (v_lss rfl rfl) ?_
     refine rnf ?_
     refine w_condM h rfl (fun _ h => ?_) (fun _ h => ?_)
     ·
      refine wkf ?_
      refine w_seq ?_
      refine w_block ?_
      refine wsr ?_
      refine oV (v_assign rfl) ?_
      refine rnf ?_
      refine w_seq ?_
      refine wsr ?_
      refine oV (v_move rfl) ?_
      refine oV (v_move rfl) ?_
      refine asd_inv h fun q814 h => ?_
      refine oV (v_vidx (α := Int) sl23 rfl rfl q814.1 q814.2) ?_
      refine cal_inv h fun y815 hy815 h => ?_
      refine oT (t_vload ty3 rfl .here hy815 ?_)
      refine ck_inv h fun q816 h => ?_
      refine oV (v_add rfl rfl q816) ?_
      refine oV (v_move rfl) ?_
      refine oV (v_lss rfl rfl) ?_
      refine rnf ?_
      refine w_J (ι := Str) (γ := Unit) (fun q817 g817 => [(10, isv (q817))]) (fun q817 g817 => []) .nil h (fun q817 g817 h => ?_) (fun J818 h hJ818 => ?_)
      ·
       refine w_region ?_
       refine oV (v_move rfl) ?_
       refine asr_inv h fun q824 h => ?_
       refine oV (v_cat rfl rfl q824) ?_
       refine oV (v_move rfl) ?_
       refine oV (v_move rfl) ?_
       refine asd_inv h fun q825 h => ?_
       refine oV (v_vidx (α := Int) sl23 rfl rfl q825.1 q825.2) ?_
       refine cal_inv h fun y826 hy826 h => ?_
       refine oT (t_vload ty3 rfl .here hy826 ?_)
       refine oV (v_toU Tryd.underlying3 Tryd.underlying41 rfl) ?_
       refine cal_inv h fun y827 hy827 h => ?_
       refine oT (t_call (h_Digits_w fuel hy827) hT (.same rfl .nil) .nil (fun R H' hR => ?_))
       obtain ⟨rfl, rfl⟩ := hR
       refine asr_inv h fun q828 h => ?_
       refine oV (v_cat rfl rfl q828) ?_
       refine asr_inv h fun q829 h => ?_
       refine oV (v_cat rfl rfl q829) ?_
       refine oV (v_move rfl) ?_
       refine asr_inv h fun q830 h => ?_
       refine oV (v_cat rfl rfl q830) ?_
       refine oV (v_assign rfl) ?_
       refine rl_nil ?_
       refine fin_block ?_
       refine fin_nxt ?_
       refine w_region ?_
       refine oV (v_move rfl) ?_
       refine ck_inv h fun q831 h => ?_
       refine oV (v_add rfl rfl q831) ?_
       refine oV (v_assign rfl) ?_
       refine rl_nil ?_
       exact hL749 _ () h _ (join_imp 30 rfl rfl (mod_cons (j := 8) rfl (fun _ _ h => h) (mod_cons (j := 9) rfl (fun _ _ h => h) mod_nil)) (.cons .here .nil))
      ·
       refine w_condM h rfl (fun _ h => ?_) (fun _ h => ?_)
       ·
        refine w_region ?_
        refine oV (v_move rfl) ?_
        refine oV (v_move rfl) ?_
        refine asd_inv h fun q819 h => ?_
        refine oV (v_vidx (α := Int) sl23 rfl rfl q819.1 q819.2) ?_
        refine cal_inv h fun y820 hy820 h => ?_
        refine oT (t_vload ty3 rfl .here hy820 ?_)
        refine ck_inv h fun q821 h => ?_
        refine oV (v_add rfl rfl q821) ?_
        refine oV (v_toU Tryd.underlying3 Tryd.underlying41 rfl) ?_
        refine cal_inv h fun y822 hy822 h => ?_
        refine oT (t_call (h_Digits_w fuel hy822) hT (.same rfl .nil) .nil (fun R H' hR => ?_))
        obtain ⟨rfl, rfl⟩ := hR
        refine asr_inv h fun q823 h => ?_
        refine oV (v_cat rfl rfl q823) ?_
        refine oV (v_assign rfl) ?_
        refine rl_nil ?_
        exact hJ818 _ () h _ (join_imp 9 rfl rfl (mod_cons (j := 10) rfl (fun _ _ h => h) mod_nil) (.cons .here .nil))
       ·
        refine w_skip ?_
        exact hJ818 _ () h _ (join_imp 0 rfl rfl (mod_cons (j := 10) rfl (fun _ _ h => h) mod_nil) (.cons .here .nil))
     ·
      refine w_exit ?_
      refine exi_nxt ?_
      refine eL749 _ _ ?_
      refine exi_block ?_
      refine fin_nxt ?_
      refine wsr ?_
      refine oV (v_move rfl) ?_
      refine asr_inv h fun q832 h => ?_
      refine oV (v_cat rfl rfl q832) ?_
      refine asr_inv h fun q833 h => ?_
      refine oV (v_cat rfl rfl q833) ?_
      refine cal_inv h fun y834 hy834 h => ?_
      refine oT (t_call (r05_Parse_w hy834) hT (.same rfl .nil) .nil (fun R H' hR => ?_))
      obtain ⟨rfl, rfl⟩ := hR
      refine oV (v_move rfl) ?_
      refine oV (v_extract rfl rfl) ?_
      refine oV (v_extract rfl rfl) ?_
      refine oV (v_extract rfl rfl) ?_
      refine oT (t_alloc _ ze26 fun b835 => ?_)
      refine oT (t_storeC (y' := (y834.1 : GMod)) ty26 rfl rfl (fun _ _ h => h) .here rfl ?_)
      refine rl_upd (upd_imm 11 .here rfl) ?_
      refine oV (v_assign rfl) ?_
      refine oV (v_assign rfl) ?_
      refine rnf ?_
      refine wsr ?_
      refine oV (v_loadI ty26 rfl) ?_
      refine cal_inv h fun y836 hy836 h => ?_
      refine oT (t_call (refs_Order_w hy836) hT (.same rfl .nil) .nil (fun R H' hR => ?_))
      obtain ⟨rfl, rfl⟩ := hR
      refine oV (v_move rfl) ?_
      refine oV (v_extract rfl rfl) ?_
      refine oV (v_extract rfl rfl) ?_
      refine oV (v_extract rfl rfl) ?_
      refine oV (v_assign rfl) ?_
      refine oV (v_assign rfl) ?_
      refine oV (v_assign rfl) ?_
      refine rnf ?_
      refine w_seq ?_
      refine wsr ?_
      refine cal_inv h fun y837 hy837 h => ?_
      refine oT (t_call (law07_awake_w hy837) hT .nil .nil (fun R H' hR => ?_))
      obtain ⟨rfl, rfl⟩ := hR
      refine oV (v_not rfl) ?_
      refine oV (v_move rfl) ?_
      refine rl_j (ι := Bool) (γ := Unit) (fun q838 g838 => [(115, isv (q838))]) (fun q838 g838 => []) .nil h 3 rfl (fun q838 g838 h => ?_) (fun J839 h hJ839 => ?_)
      ·
       refine oV (v_move rfl) ?_
       refine rl_j (ι := Bool) (γ := Unit) (fun q841 g841 => [(119, isv (q841))]) (fun q841 g841 => []) .nil h 3 rfl (fun q841 g841 h => ?_) (fun J842 h hJ842 => ?_)
       ·
        refine oV (v_move rfl) ?_
        refine rl_j (ι := Bool) (γ := Unit) (fun q844 g844 => [(125, isv (q844))]) (fun q844 g844 => []) .nil h 5 rfl (fun q844 g844 h => ?_) (fun J845 h hJ845 => ?_)
        ·
         refine rnf ?_
         refine w_condM h rfl (fun _ h => ?_) (fun _ h => ?_)
         ·
          refine wsr ?_
          refine oV (v_assign rfl) ?_
          refine rnf ?_
          refine w_ret ?_
          refine ret_nxt ?_
          refine ret_post (.tmp rfl .nil) .nil ?_
          obtain rfl := Option.some.inj h
          exact ⟨rfl, rfl⟩
         ·
          refine wkf ?_
          refine w_seq ?_
          refine wsr ?_
          refine oV (v_assign rfl) ?_
          refine rnf ?_
          refine w_block ?_
          refine w_lp (ι := Int) (γ := Unit) (fun q847 g847 => [(17, isv (q847))]) (fun q847 g847 => []) h () (mod_cons (j := 17) rfl (fun _ _ h => h) mod_nil) .nil (fun L848 q847 g847 Q877 h hL848 eL848 rL848 => ?_)
          refine w_seq ?_
          refine wsr ?_
          refine oV (v_move rfl) ?_
          refine oV (v_move rfl) ?_
          refine oV (v_lss rfl rfl) ?_
          refine rnf ?_
          refine w_condM h rfl (fun _ h => ?_) (fun _ h => ?_)
          ·
           refine wkf ?_
           refine w_seq ?_
           refine w_block ?_
           refine wsr ?_
           refine oV (v_move rfl) ?_
           refine oV (v_move rfl) ?_
           refine cal_inv h fun y863 hy863 h => ?_
           refine oV (v_ix (l := y836.1) rfl (fun _ _ h => h) rfl sl23 hy863) ?_
           refine oV (v_loadI ty3 rfl) ?_
           refine oV (v_lss rfl rfl) ?_
           refine oV (v_move rfl) ?_
           refine rl_j (ι := Bool) (γ := Unit) (fun q864 g864 => [(143, isv (q864))]) (fun q864 g864 => []) .nil h 7 rfl (fun q864 g864 h => ?_) (fun J865 h hJ865 => ?_)
           ·
            refine oV (v_move rfl) ?_
            refine rl_j (ι := Bool) (γ := Unit) (fun q868 g868 => [(157, isv (q868))]) (fun q868 g868 => []) .nil h 13 rfl (fun q868 g868 h => ?_) (fun J869 h hJ869 => ?_)
            ·
             refine rnf ?_
             refine w_condM h rfl (fun _ h => ?_) (fun _ h => ?_)
             ·
              refine wsr ?_
              refine oV (v_assign rfl) ?_
              refine rnf ?_
              refine w_ret ?_
              refine ret_block ?_
              refine ret_nxt ?_
              refine rL848 _ ?_
              refine ret_block ?_
              refine ret_nxt ?_
              refine ret_post (.tmp rfl .nil) .nil ?_
              obtain rfl := Option.some.inj h
              exact ⟨rfl, rfl⟩
             ·
              refine w_skip ?_
              refine fin_block ?_
              refine fin_nxt ?_
              refine w_region ?_
              refine oV (v_move rfl) ?_
              refine ck_inv h fun q876 h => ?_
              refine oV (v_add rfl rfl q876) ?_
              refine oV (v_assign rfl) ?_
              refine rl_nil ?_
              exact hL848 _ () h _ (join_imp 16 rfl rfl (mod_cons (j := 17) rfl (fun _ _ h => h) mod_nil) (.cons .here .nil))
            ·
             refine rl_condM (j := 144) h rfl (fun g870 h => ?_) (fun g870 h => ?_)
             ·
              refine op_pass rfl (dj := 144) rfl g870 ?_
              refine op_pass rfl (dj := 144) rfl g870 ?_
              refine op_pass rfl (dj := 144) rfl g870 ?_
              refine op_pass rfl (dj := 144) rfl g870 ?_
              refine op_pass rfl (dj := 144) rfl g870 ?_
              refine op_pass rfl (dj := 144) rfl g870 ?_
              refine op_pass rfl (dj := 144) rfl g870 ?_
              refine op_pass rfl (dj := 144) rfl g870 ?_
              refine op_pass rfl (dj := 144) rfl g870 ?_
              refine op_pass rfl (dj := 144) rfl g870 ?_
              refine op_pass rfl (dj := 144) rfl g870 ?_
              refine op_pass rfl (dj := 144) rfl g870 ?_
              refine oV (v_pick_t rfl g870 rfl) ?_
              exact hJ869 _ () h _ (join_imp 13 rfl rfl (mod_cons (j := 157) rfl (fun _ _ h => h) mod_nil) (.cons .here .nil))
             ·
              refine op_take rfl rfl (dj := 144) rfl g870 (OpV.t (v_move rfl) ?_)
              refine op_take rfl rfl (dj := 144) rfl g870 (OpV.t (v_move rfl) ?_)
              refine op_take rfl rfl (dj := 144) rfl g870 (OpV.t (v_move rfl) ?_)
              refine cal_inv h fun y871 hy871 h => ?_
              refine op_take rfl rfl (dj := 144) rfl g870 (OpV.t (v_ix (l := y836.1) rfl (fun _ _ h => h) rfl sl23 hy871) ?_)
              refine op_take rfl rfl (dj := 144) rfl g870 (OpV.t (v_loadI ty3 rfl) ?_)
              refine asd_inv h fun q872 h => ?_
              refine op_take rfl rfl (dj := 144) rfl g870 (OpV.t (v_vidx (α := Int) sl23 rfl rfl q872.1 q872.2) ?_)
              refine cal_inv h fun y873 hy873 h => ?_
              refine op_take rfl rfl (dj := 144) rfl g870 (t_vload ty3 rfl .here hy873 ?_)
              refine op_take rfl rfl (dj := 144) rfl g870 (OpV.t (v_move rfl) ?_)
              refine ck_inv h fun q874 h => ?_
              refine op_take rfl rfl (dj := 144) rfl g870 (OpV.t (v_sub rfl rfl q874) ?_)
              refine op_take rfl rfl (dj := 144) rfl g870 (OpV.t (v_move rfl) ?_)
              refine ck_inv h fun q875 h => ?_
              refine op_take rfl rfl (dj := 144) rfl g870 (OpV.t (v_sub rfl rfl q875) ?_)
              refine op_take rfl rfl (dj := 144) rfl g870 (OpV.t (v_neq rfl rfl) ?_)
              refine oV (v_pick_f rfl g870 rfl) ?_
              exact hJ869 _ () h _ (join_imp 13 rfl rfl (mod_cons (j := 157) rfl (fun _ _ h => h) mod_nil) (.cons .here .nil))
           ·
            refine rl_condM (j := 136) h rfl (fun g866 h => ?_) (fun g866 h => ?_)
            ·
             refine op_pass rfl (dj := 136) rfl g866 ?_
             refine op_pass rfl (dj := 136) rfl g866 ?_
             refine op_pass rfl (dj := 136) rfl g866 ?_
             refine op_pass rfl (dj := 136) rfl g866 ?_
             refine op_pass rfl (dj := 136) rfl g866 ?_
             refine op_pass rfl (dj := 136) rfl g866 ?_
             refine oV (v_pick_t rfl g866 rfl) ?_
             exact hJ865 _ () h _ (join_imp 7 rfl rfl (mod_cons (j := 143) rfl (fun _ _ h => h) mod_nil) (.cons .here .nil))
            ·
             refine op_take rfl rfl (dj := 136) rfl g866 (OpV.t (v_move rfl) ?_)
             refine op_take rfl rfl (dj := 136) rfl g866 (OpV.t (v_move rfl) ?_)
             refine cal_inv h fun y867 hy867 h => ?_
             refine op_take rfl rfl (dj := 136) rfl g866 (OpV.t (v_ix (l := y836.1) rfl (fun _ _ h => h) rfl sl23 hy867) ?_)
             refine op_take rfl rfl (dj := 136) rfl g866 (OpV.t (v_loadI ty3 rfl) ?_)
             refine op_take rfl rfl (dj := 136) rfl g866 (OpV.t (v_move rfl) ?_)
             refine op_take rfl rfl (dj := 136) rfl g866 (OpV.t (v_geq rfl rfl) ?_)
             refine oV (v_pick_f rfl g866 rfl) ?_
             exact hJ865 _ () h _ (join_imp 7 rfl rfl (mod_cons (j := 143) rfl (fun _ _ h => h) mod_nil) (.cons .here .nil))
          ·
           refine w_exit ?_
           refine exi_nxt ?_
           refine eL848 _ _ ?_
           refine exi_block ?_
           refine fin_nxt ?_
           refine wsr ?_
           refine oV (v_assign rfl) ?_
           refine rnf ?_
           refine w_ret ?_
           refine ret_post (.tmp rfl .nil) .nil ?_
           obtain rfl := Option.some.inj h
           exact ⟨rfl, rfl⟩
        ·
         refine rl_condM (j := 120) h rfl (fun g846 h => ?_) (fun g846 h => ?_)
         ·
          refine op_pass rfl (dj := 120) rfl g846 ?_
          refine op_pass rfl (dj := 120) rfl g846 ?_
          refine op_pass rfl (dj := 120) rfl g846 ?_
          refine op_pass rfl (dj := 120) rfl g846 ?_
          refine oV (v_pick_t rfl g846 rfl) ?_
          exact hJ845 _ () h _ (join_imp 5 rfl rfl (mod_cons (j := 125) rfl (fun _ _ h => h) mod_nil) (.cons .here .nil))
         ·
          refine op_take rfl rfl (dj := 120) rfl g846 (OpV.t (v_move rfl) ?_)
          refine op_take rfl rfl (dj := 120) rfl g846 (OpV.t (v_ln (l := y836.1) rfl (fun _ _ h => h) sl23) ?_)
          refine op_take rfl rfl (dj := 120) rfl g846 (OpV.t (v_move rfl) ?_)
          refine op_take rfl rfl (dj := 120) rfl g846 (OpV.t (v_neq rfl rfl) ?_)
          refine oV (v_pick_f rfl g846 rfl) ?_
          exact hJ845 _ () h _ (join_imp 5 rfl rfl (mod_cons (j := 125) rfl (fun _ _ h => h) mod_nil) (.cons .here .nil))
       ·
        refine rl_condM (j := 116) h rfl (fun g843 h => ?_) (fun g843 h => ?_)
        ·
         refine op_pass rfl (dj := 116) rfl g843 ?_
         refine op_pass rfl (dj := 116) rfl g843 ?_
         refine oV (v_pick_t rfl g843 rfl) ?_
         exact hJ842 _ () h _ (join_imp 3 rfl rfl (mod_cons (j := 119) rfl (fun _ _ h => h) mod_nil) (.cons .here .nil))
        ·
         refine op_take rfl rfl (dj := 116) rfl g843 (OpV.t (v_move rfl) ?_)
         refine op_take rfl rfl (dj := 116) rfl g843 (OpV.t (v_neq rfl rfl) ?_)
         refine oV (v_pick_f rfl g843 rfl) ?_
         exact hJ842 _ () h _ (join_imp 3 rfl rfl (mod_cons (j := 119) rfl (fun _ _ h => h) mod_nil) (.cons .here .nil))
      ·
       refine rl_condM (j := 112) h rfl (fun g840 h => ?_) (fun g840 h => ?_)
       ·
        refine op_pass rfl (dj := 112) rfl g840 ?_
        refine op_pass rfl (dj := 112) rfl g840 ?_
        refine oV (v_pick_t rfl g840 rfl) ?_
        exact hJ839 _ () h _ (join_imp 3 rfl rfl (mod_cons (j := 115) rfl (fun _ _ h => h) mod_nil) (.cons .here .nil))
       ·
        refine op_take rfl rfl (dj := 112) rfl g840 (OpV.t (v_move rfl) ?_)
        refine op_take rfl rfl (dj := 112) rfl g840 (OpV.t (v_neq rfl rfl) ?_)
        refine oV (v_pick_f rfl g840 rfl) ?_
        exact hJ839 _ () h _ (join_imp 3 rfl rfl (mod_cons (j := 115) rfl (fun _ _ h => h) mod_nil) (.cons .here .nil))
 ·
  refine rl_condM (j := 22) h rfl (fun g3 h => ?_) (fun g3 h => ?_)
  ·
   refine op_pass rfl (dj := 22) rfl g3 ?_
   refine op_pass rfl (dj := 22) rfl g3 ?_
   refine oV (v_pick_t rfl g3 rfl) ?_
   exact hJ2 _ () h _ (join_imp 3 rfl rfl (mod_cons (j := 25) rfl (fun _ _ h => h) mod_nil) .nil)
  ·
   refine op_take rfl rfl (dj := 22) rfl g3 (OpV.t (v_move rfl) ?_)
   refine op_take rfl rfl (dj := 22) rfl g3 (OpV.t (v_gtr rfl rfl) ?_)
   refine oV (v_pick_f rfl g3 rfl) ?_
   exact hJ2 _ () h _ (join_imp 3 rfl rfl (mod_cons (j := 25) rfl (fun _ _ h => h) mod_nil) .nil)

end Go.Proofs.YtdcdndflfhaejaaDoor


namespace Go.Sy
open Go.Shelf Go.Lib Go.ChangeShapes Go.WideShapes Go.ChangeAt Go.RowKit

theorem cell_sub {W w : World} {a : Addr} {v : Value} (h : W.cell? a = some v) (hs : (snap W).sub w) : w.cell? a = some v := by
  obtain ⟨h1, c, h2, h3⟩ := cell_snap h
  obtain ⟨c', T, fr, h4, h5⟩ := hs _ _ h2
  unfold World.cell?
  rw [h4]
  simp only [h1]
  obtain ⟨t, ht⟩ := h5
  rw [← Array.getElem?_toList, ← ht, List.getElem?_append_left (by
    rcases Nat.lt_or_ge a.off c.length with h6 | h6
    · exact h6
    · rw [List.getElem?_eq_none h6] at h3; cases h3)]
  exact h3
theorem tabs_of {P : Program} {g1 g2 : Nat} {W : World} (h : Lib.Utf8Tabs g1 g2 W) (e1 : P.globals.findIdx? (·.name == "unicode/utf8.first") = some g1) (e2 : P.globals.findIdx? (·.name == "unicode/utf8.acceptRanges") = some g2) : Tabs P (snap W) := by
  intro w hw k1 k2 h1 h2
  rw [e1] at h1; cases h1
  rw [e2] at h2; cases h2
  exact ⟨fun c hc => cell_sub (h.1 c hc) hw, fun i hi => ⟨cell_sub (h.2 i hi).1 hw, cell_sub (h.2 i hi).2 hw⟩⟩

theorem law_laid {H : Type} {enc : TypeId × Value → H} {a : Assume} {C : Checked} {os : Os} {f : FuncId} {fn : Func} {s : OpenSpec} {F : Stop.Interp} {B : TypeId} {apart fresh handsOn : Bool} {laid : List (String × DataW Unit)}
    (own : ownKnob C.prog.godebug = none) (started : os.Started) (noInit : C.prog.inits.idxOf? f = none) (hfn : C.prog.funcs[f]? = some fn)
    (witness : ∃ (w : World) (tape : Tape) (i : Input), w.os = os ∧ (w.forCall tape i).Shaped C.prog ∧ i.vars = [] ∧ Input.okWide C.prog (w.forCall tape i) .any w.heap.size f i ∧
      s.preRow enc C.prog fn [] apart laid (w.forCall tape i).memory i.args ∧ a.holds C.prog (lone (Frame.enter C.prog f i.args .normal) [] (w.forCall tape i)))
    (hl : laidOutB C.prog = true) (hr : (fn.params.toList.all fun t => C.prog.readableRec t && decide (t < C.prog.types.size)) = true) (hv : s.vars = []) (hres : fn.resultTypes = #[B]) (hB : C.prog.underlying B = some .bool)
    (hs : ∀ ds : List (DataW H), ds.length = fn.params.size → (s.at F).fn H ds = { results := [.lit (.bool true)], args := ds })
    (tabs : ∀ W, laidMetH C.prog laid W → Tabs C.prog (snap W))
    (run : ∀ (W : World) (vs : List Value) (ds : List (DataW H)) (p : List MemPlace), Tabs C.prog (snap W) → DataW.TrodAll enc C.prog W 0 (fun _ => true) true fn.params.toList vs ds p → (∀ k ∈ DataW.weightsEach C.prog fn.params.toList ds, k ≤ reachBytes) → (∃ base, ∀ (j : Nat) t v, fn.params.toList[j]? = some t → vs[j]? = some v → Value.okWide C.prog W .any base t v) →
      Calls C.prog f vs.toArray W fun e W' => e = .returned (.bool true) ∧ Keep [] W W') :
    ReturnsInHanded a C os f .any (s.preRow enc C.prog fn [] apart laid) ((s.at F).post enc C.prog fn apart fresh handsOn false) := by
  refine returnsInHanded_of_row own started noInit hfn witness ?_
  intro W base args ds gs before hval hW _ _ hwt hL _ _
  have hlt := hW.lt
  have hW0 := hW
  obtain ⟨p, q, hA, hV, rfl, hfz, hnd⟩ := hW
  rw [hv] at hV
  have hgs : gs = [] ∧ q = [] := by
    cases gs with
    | nil => exact ⟨rfl, hV⟩
    | cons _ _ => exact hV.elim
  obtain ⟨rfl, rfl⟩ := hgs
  have hlen : ds.length = fn.params.size := by
    have : ∀ {ts : List TypeId} {vs : List Value} {ds : List (DataW H)} {ps : List MemPlace}, DataW.TrodAll enc C.prog W 0 (fun _ => true) true ts vs ds ps → ds.length = ts.length := by
      intro ts
      induction ts with
      | nil => intro vs ds ps h; cases vs <;> cases ds <;> simp_all [DataW.TrodAll]
      | cons t ts ih =>
        intro vs ds ps h
        cases vs <;> cases ds <;> simp only [DataW.TrodAll] at h
        obtain ⟨_, _, _, h2, _⟩ := h
        simp [ih h2]
    simpa using this hA
  have hvt' : s.bare.plain.varTypes C.prog = [] := by
    simp [OpenSpec.bare, ChangeSpec.plain, DataSpec.varTypes, hv]
  rw [hvt', List.append_nil, List.append_nil] at hwt
  have hrun := run W args.toList ds p (tabs W hL) hA (fun k hk => by simpa using List.all_eq_true.1 hwt k hk) ⟨base, fun j t v hj hv' => hval j t v (by simpa using hj) (by simpa using hv')⟩
  refine hrun.mono fun e W' ⟨he, hk⟩ => ?_
  subst he
  have hb := hk.below
  refine ⟨_, rfl, ds, [], p ++ [], [], p, [], hW0, ?_, ?_, ?_, hb.frame _, fun h => by cases h⟩
  · rw [List.append_nil, hs ds hlen, hres]
    exact trodAll_mk1 (shut_bool hB true)
  · rw [List.append_nil, hs ds hlen]
    exact trodAll_stays hl hb hr hA (fun x hx => hlt x (List.mem_append_left _ hx)) (fun x hx => by simpa using hlt x (List.mem_append_left _ hx))
  · show DataW.TrodVars enc C.prog W' _ s.vars _ _
    rw [hv]
    rw [List.append_nil, hs ds hlen]
    exact rfl
end Go.Sy


namespace Go.Proofs.YtdcdndflfhaejaaDoor
open Go.Sy Go.Shelf Go.Lib Go.ChangeShapes Go.WideShapes Go.ChangeAt Go.RowKit

theorem own : ownKnob Tryd.prog.godebug = none := by kernel_rfl
theorem laidOut : laidOutB Tryd.prog = true := by kernel_rfl

/-- A world in which the two tables hold what their texts lay. -/
noncomputable def laidWorld (os : Os) : World :=
  let w0 := World.holding Tryd.prog os ⟨#[], #[], []⟩
  let put (h : Array Obj) (g : Nat) (cs : Array Value) : Array Obj := h.modify g fun
    | .cells _ t frozen => .cells cs t frozen
    | o => o
  let h1 := put w0.heap 0 (Lib.firstTab.map fun z => Value.int .u8 z).toArray
  let h2 := put h1 1 ((List.range 16).flatMap fun i => [Value.int .u8 (Lib.accLo i), Value.int .u8 (Lib.accHi i)]).toArray
  { w0 with heap := h2 }
/-- The two tables, as the rows list them. -/
def laidTwo : List (String × DataW Unit) := [("unicode/utf8.acceptRanges", Lib.acceptData), ("unicode/utf8.first", Lib.firstData)]
theorem laid_met (os : Os) (args : Array Value) : laidMet Tryd.prog laidTwo ((laidWorld os).forCall (fun _ _ => 0) ⟨#[], args, []⟩).memory :=
  (LaidIn.of_run [0, 1] 8 (by kernel_rfl) (by kernel_rfl) (by kernel_rfl) (by kernel_rfl)).met
theorem tabs_laid (W : World) (h : laidMetH Tryd.prog laidTwo W) : Tabs Tryd.prog (snap W) :=
  tabs_of (utf8Tabs_of_readsT (U8Types.of196 valLays) ⟨by kernel_rfl, by kernel_rfl, by kernel_rfl, by kernel_rfl, by kernel_rfl, by kernel_rfl, by kernel_rfl⟩ (Lib.laidMet.reads h (.tail _ (.head _))) (Lib.laidMet.reads h (.head _))) valLays.g3 valLays.g4
end Go.Proofs.YtdcdndflfhaejaaDoor

