/- Walks, printed by mill.py. -/
import Derived.Test.YtdcdndflfhaejaaDoorW3
namespace Go.Proofs.YtdcdndflfhaejaaDoor
open Go.Sy
set_option maxRecDepth 4000
theorem r05_Parse_w : ∀ {a_text : Str} {r : GMod × Int × Int}, r05_Parse a_text = some r → Ctr Tryd.prog 8 [isv (a_text)] [] (fun R H => R = oneOf [isv (r.1), isv (r.2.1), isv (r.2.2)] ∧ H = []) := by
  intro a_text r h
  unfold r05_Parse at h
  refine spec_intro Tryd.func8 rfl (by decide +kernel) (by rfl) fun w0 S0 hT => ?_
  refine w_seq ?_
  refine w_region ?_
  refine op_cons rfl (t_alloc _ ze26 fun b1 => ?_)
  refine op_cons rfl (OpV.t (v_assign rfl) ?_)
  refine op_cons rfl (OpV.t (v_assign rfl) ?_)
  refine rl_nil ?_
  refine fin_nxt ?_
  refine w_seq ?_
  refine w_region ?_
  refine op_cons rfl (OpV.t (v_move rfl) ?_)
  refine cal_inv h fun y2 hy2 h => ?_
  refine op_cons rfl (t_call (r04_Tokens_w hy2) hT (.same rfl .nil) .nil (fun R H' hR => ?_))
  obtain ⟨rfl, rfl⟩ := hR
  refine op_cons rfl (OpV.t (v_move rfl) ?_)
  refine op_cons rfl (OpV.t (v_extract rfl rfl) ?_)
  refine op_cons rfl (OpV.t (v_extract rfl rfl) ?_)
  refine op_cons rfl (OpV.t (v_extract rfl rfl) ?_)
  refine op_cons rfl (OpV.t (v_assign rfl) ?_)
  refine op_cons rfl (OpV.t (v_assign rfl) ?_)
  refine op_cons rfl (OpV.t (v_assign rfl) ?_)
  refine rl_nil ?_
  refine fin_nxt ?_
  refine w_seq ?_
  refine w_seq ?_
  refine w_region ?_
  refine op_cons rfl (OpV.t (v_move rfl) ?_)
  refine op_cons rfl (OpV.t (v_neq rfl rfl) ?_)
  refine rl_nil ?_
  refine fin_nxt ?_
  refine w_condM h rfl (fun _ h => ?_) (fun _ h => ?_)
  · skip
    refine w_seq ?_
    refine w_region ?_
    refine op_cons rfl (OpV.t (v_build (z := (GMod.mk (Str.mk []) (0 : Int) ([] : (List Str)) ([] : (List Int)) ([] : (List GNode)))) rfl bu26 ze26 .nil) ?_)
    refine op_cons rfl (OpV.t (v_move rfl) ?_)
    refine op_cons rfl (OpV.t (v_move rfl) ?_)
    refine op_cons rfl (t_storeC (y' := ((GMod.mk (Str.mk []) (0 : Int) ([] : (List Str)) ([] : (List Int)) ([] : (List GNode))) : GMod)) ty26 rfl rfl (fun _ _ h => h) .here rfl ?_)
    refine op_cons rfl (OpV.t (v_assign rfl) ?_)
    refine op_cons rfl (OpV.t (v_assign rfl) ?_)
    refine rl_nil ?_
    refine fin_nxt ?_
    refine w_ret ?_
    refine ret_nxt ?_
    refine ret_post (.cell rfl .here ty26 (.tmp rfl (.tmp rfl .nil))) .nil ?_
    obtain rfl := Option.some.inj h
    exact ⟨rfl, rfl⟩
  · skip
    refine w_skip ?_
    refine fin_nxt ?_
    refine w_seq ?_
    refine w_region ?_
    refine op_cons rfl (OpV.t (v_move rfl) ?_)
    refine op_cons rfl (OpV.t (v_build (z := ((y2.1, (0 : Int), ((Str.mk []), (0 : Int), (TList.mk none ([] : (List Str))), (TList.mk none ([] : (List Int))), (Vh.mk none 0)), (0 : Int), (0 : Int)) : ((List GTok) × Int × (Str × Int × (TList Str) × (TList Int) × Vh) × Int × Int))) rfl bu49 zt49_0 (.cons pt49_0_0 fd49_0 rfl (fun _ _ h => h) .nil)) ?_)
    refine op_cons rfl (t_boxC (y := ((y2.1, (0 : Int), ((Str.mk []), (0 : Int), (TList.mk none ([] : (List Str))), (TList.mk none ([] : (List Int))), (Vh.mk none 0)), (0 : Int), (0 : Int)) : ((List GTok) × Int × (Str × Int × (TList Str) × (TList Int) × Vh) × Int × Int))) rfl (fun _ _ h => h) fun b3 => ?_)
    refine rl_upd (upd_tok) ?_
    refine rl_upd (upd_tok) ?_
    refine rl_upd (upd_vec (α := GNode)) ?_
    refine op_cons rfl (OpV.t (v_assign rfl) ?_)
    refine rl_nil ?_
    refine fin_nxt ?_
    refine w_seq ?_
    refine w_region ?_
    refine op_cons rfl (OpV.t (v_move rfl) ?_)
    refine op_cons rfl (OpV.t (v_move rfl) ?_)
    refine cal_inv h fun y7 hy7 h => ?_
    refine op_cons rfl (t_call (r05_parser_kind_w hy7) hT (.same rfl (.same rfl .nil)) (.cons (.there (.there (.there .here))) (.cons (.there (.there .here)) (.cons (.there .here) (.cons .here .nil)))) (fun R H' hR => ?_))
    obtain ⟨t8, t9, v10, rfl, rfl⟩ := hR
    refine op_cons rfl (OpV.t (v_nilCheck rfl) ?_)
    refine op_cons rfl (OpV.t (v_fa rfl pt49_0_2 fd49_2) ?_)
    refine op_cons rfl (OpV.t (v_fa rfl pt26_0_0 fd26_0) ?_)
    refine op_cons rfl (t_storeC (y' := ((y7.2.l, y7.2.at_, (y7.1, y7.2.m.tagging, (TList.mk t8 y7.2.m.names), (TList.mk t9 y7.2.m.types), (Vh.mk v10 y7.2.m.nodes.length)), y7.2.e, y7.2.p) : ((List GTok) × Int × (Str × Int × (TList Str) × (TList Int) × Vh) × Int × Int))) ty9 rfl rfl (fun _ _ h => h) .here rfl ?_)
    refine rl_nil ?_
    refine fin_nxt ?_
    refine w_seq ?_
    refine w_region ?_
    refine op_cons rfl (OpV.t (v_move rfl) ?_)
    refine cal_inv h fun y11 hy11 h => ?_
    refine op_cons rfl (t_call (r05_parser_must_w hy11) hT (.same rfl (.same rfl .nil)) (.cons .here (.cons .here (.cons .here (.cons .here .nil)))) (fun R H' hR => ?_))
    obtain ⟨t12, t13, v14, rfl, rfl⟩ := hR
    refine rl_nil ?_
    refine fin_nxt ?_
    refine w_seq ?_
    refine w_J (ι := GPar) (γ := Tok × Tok × Vt) (fun q15 g15 => []) (fun q15 g15 => [boxE b3 ((q15.l, q15.at_, (q15.m.name, q15.m.tagging, (TList.mk g15.1 q15.m.names), (TList.mk g15.2.1 q15.m.types), (Vh.mk g15.2.2 q15.m.nodes.length)), q15.e, q15.p) : ((List GTok) × Int × (Str × Int × (TList Str) × (TList Int) × Vh) × Int × Int)), tokE g15.1, tokE g15.2.1, vecE g15.2.2 (q15.m.nodes : List GNode)]) (.cons .here (.cons .here (.cons .here (.cons .here .nil)))) h (fun q15 g15 h => ?_) (fun J16 h hJ16 => ?_)
    · skip
      refine w_seq ?_
      refine w_region ?_
      refine op_cons rfl (OpV.t (v_move rfl) ?_)
      refine cal_inv h fun y41 hy41 h => ?_
      refine op_cons rfl (t_call (r05_parser_must_w hy41) hT (.same rfl (.same rfl .nil)) (.cons .here (.cons .here (.cons .here (.cons .here .nil)))) (fun R H' hR => ?_))
      obtain ⟨t42, t43, v44, rfl, rfl⟩ := hR
      refine rl_nil ?_
      refine fin_nxt ?_
      refine w_seq ?_
      refine w_region ?_
      refine op_cons rfl (OpV.t (v_move rfl) ?_)
      refine cal_inv h fun y45 hy45 h => ?_
      refine op_cons rfl (t_call (r05_parser_must_w hy45) hT (.same rfl (.same rfl .nil)) (.cons .here (.cons .here (.cons .here (.cons .here .nil)))) (fun R H' hR => ?_))
      obtain ⟨t46, t47, v48, rfl, rfl⟩ := hR
      refine rl_nil ?_
      refine fin_nxt ?_
      refine w_seq ?_
      refine w_block ?_
      refine w_lp (ι := GPar) (γ := Tok × Tok × Vt) (fun q49 g49 => []) (fun q49 g49 => [boxE b3 ((q49.l, q49.at_, (q49.m.name, q49.m.tagging, (TList.mk g49.1 q49.m.names), (TList.mk g49.2.1 q49.m.types), (Vh.mk g49.2.2 q49.m.nodes.length)), q49.e, q49.p) : ((List GTok) × Int × (Str × Int × (TList Str) × (TList Int) × Vh) × Int × Int)), tokE g49.1, tokE g49.2.1, vecE g49.2.2 (q49.m.nodes : List GNode)]) h (t46, t47, v48) mod_nil (.cons .here (.cons .here (.cons .here (.cons .here .nil)))) (fun L50 q49 g49 Q167 h hL50 eL50 rL50 => ?_)
      refine w_seq ?_
      refine w_seq ?_
      refine w_region ?_
      refine op_cons rfl (OpV.t (v_move rfl) ?_)
      refine op_cons rfl (OpV.t (v_nilCheck rfl) ?_)
      refine op_cons rfl (OpV.t (v_fa rfl pt49_0_3 fd49_3) ?_)
      refine op_cons rfl (t_loadC (R := isv (q49.e)) ty27 rfl .here (fun _ _ h => h) ?_)
      refine op_cons rfl (OpV.t (v_eql rfl rfl) ?_)
      refine op_cons rfl (OpV.t (v_move rfl) ?_)
      refine rl_j (ι := Bool × GPar) (γ := Tok × Tok × Vt) (fun q109 g109 => [(70, isv (q109.1))]) (fun q109 g109 => [boxE b3 ((q109.2.l, q109.2.at_, (q109.2.m.name, q109.2.m.tagging, (TList.mk g109.1 q109.2.m.names), (TList.mk g109.2.1 q109.2.m.types), (Vh.mk g109.2.2 q109.2.m.nodes.length)), q109.2.e, q109.2.p) : ((List GTok) × Int × (Str × Int × (TList Str) × (TList Int) × Vh) × Int × Int)), tokE g109.1, tokE g109.2.1, vecE g109.2.2 (q109.2.m.nodes : List GNode)]) (.cons .here (.cons .here (.cons .here (.cons .here .nil)))) h 4 rfl (fun q109 g109 h => ?_) (fun J110 h hJ110 => ?_)
      · skip
        refine rl_nil ?_
        refine fin_nxt ?_
        refine w_condM h rfl (fun _ h => ?_) (fun _ h => ?_)
        · skip
          refine w_skip ?_
          refine fin_nxt ?_
          refine w_block ?_
          refine w_seq ?_
          refine w_region ?_
          refine op_cons rfl (OpV.t (v_move rfl) ?_)
          refine cal_inv h fun y116 hy116 h => ?_
          refine op_cons rfl (t_call (r05_parser_now_w hy116) hT (.same rfl .nil) (.cons .here (.cons .here (.cons .here (.cons .here .nil)))) (fun R H' hR => ?_))
          obtain ⟨t117, t118, v119, rfl, rfl⟩ := hR
          refine op_cons rfl (t_alloc _ ze53 fun b120 => ?_)
          refine op_cons rfl (t_storeC (y' := (y116.1 : GTok)) ty53 rfl rfl (fun _ _ h => h) .here rfl ?_)
          refine rl_upd (upd_imm 9 .here rfl) ?_
          refine rl_nil ?_
          refine fin_nxt ?_
          refine w_seq ?_
          refine w_region ?_
          refine op_cons rfl (OpV.t (v_move rfl) ?_)
          refine cal_inv h fun y121 hy121 h => ?_
          refine op_cons rfl (t_call (r05_parser_kind_w hy121) hT (.same rfl (.same rfl .nil)) (.cons .here (.cons .here (.cons .here (.cons .here .nil)))) (fun R H' hR => ?_))
          obtain ⟨t122, t123, v124, rfl, rfl⟩ := hR
          refine op_cons rfl (OpV.t (v_assign rfl) ?_)
          refine rl_nil ?_
          refine fin_nxt ?_
          refine w_seq ?_
          refine w_seq ?_
          refine w_region ?_
          refine op_cons rfl (OpV.t (v_move rfl) ?_)
          refine op_cons rfl (OpV.t (v_nilCheck rfl) ?_)
          refine op_cons rfl (OpV.t (v_fa rfl pt49_0_3 fd49_3) ?_)
          refine op_cons rfl (t_loadC (R := isv (y121.2.e)) ty27 rfl .here (fun _ _ h => h) ?_)
          refine op_cons rfl (OpV.t (v_eql rfl rfl) ?_)
          refine op_cons rfl (OpV.t (v_move rfl) ?_)
          refine rl_j (ι := Bool) (γ := Unit) (fun q125 g125 => [(88, isv (q125))]) (fun q125 g125 => []) .nil h 8 rfl (fun q125 g125 h => ?_) (fun J126 h hJ126 => ?_)
          · skip
            refine rl_nil ?_
            refine fin_nxt ?_
            refine w_J (ι := GPar) (γ := Tok × Tok × Vt) (fun q128 g128 => []) (fun q128 g128 => [boxE b3 ((q128.l, q128.at_, (q128.m.name, q128.m.tagging, (TList.mk g128.1 q128.m.names), (TList.mk g128.2.1 q128.m.types), (Vh.mk g128.2.2 q128.m.nodes.length)), q128.e, q128.p) : ((List GTok) × Int × (Str × Int × (TList Str) × (TList Int) × Vh) × Int × Int)), tokE g128.1, tokE g128.2.1, vecE g128.2.2 (q128.m.nodes : List GNode)]) (.cons .here (.cons .here (.cons .here (.cons .here .nil)))) h (fun q128 g128 h => ?_) (fun J129 h hJ129 => ?_)
            · skip
              refine w_seq ?_
              refine w_region ?_
              refine op_cons rfl (OpV.t (v_move rfl) ?_)
              refine cal_inv h fun y134 hy134 h => ?_
              refine op_cons rfl (t_call (r05_parser_must_w hy134) hT (.same rfl (.same rfl .nil)) (.cons .here (.cons .here (.cons .here (.cons .here .nil)))) (fun R H' hR => ?_))
              obtain ⟨t135, t136, v137, rfl, rfl⟩ := hR
              refine rl_nil ?_
              refine fin_nxt ?_
              refine w_seq ?_
              refine w_region ?_
              refine op_cons rfl (OpV.t (v_move rfl) ?_)
              refine cal_inv h fun y138 hy138 h => ?_
              refine op_cons rfl (t_call (r05_parser_typ_w fuel hy138) hT (.same rfl (.same rfl .nil)) (.cons .here (.cons .here (.cons .here (.cons .here .nil)))) (fun R H' hR => ?_))
              obtain ⟨t139, t140, v141, rfl, rfl⟩ := hR
              refine op_cons rfl (OpV.t (v_assign rfl) ?_)
              refine rl_nil ?_
              refine fin_nxt ?_
              refine w_seq ?_
              refine w_region ?_
              refine op_cons rfl (OpV.t (v_move rfl) ?_)
              refine op_cons rfl (OpV.t (v_move rfl) ?_)
              refine op_cons rfl (OpV.t (v_nilCheck rfl) ?_)
              refine op_cons rfl (OpV.t (v_fa rfl pt49_0_2 fd49_2) ?_)
              refine op_cons rfl (OpV.t (v_fa rfl pt26_0_2 fd26_2) ?_)
              refine op_cons rfl (t_loadC (R := appv t139 (y138.2.m.names)) ty22 rfl .here isvT1 ?_)
              refine op_cons rfl (OpV.t (v_move rfl) ?_)
              refine op_cons rfl (t_buildSlice (l := ([y121.1] : (List Str))) el22 (.cons rfl (fun _ _ h => h) .nil) rfl rfl ?_)
              refine asr_inv h fun q144 h => ?_
              refine op_cons rfl (t_appC (l := y138.2.m.names) (m := ([y121.1] : (List Str))) ap22_22 rfl (fun _ _ h => h) rfl appv_isv (.there .here) q144 fun t143 => ?_)
              refine op_cons rfl (OpV.t (v_nilCheck rfl) ?_)
              refine op_cons rfl (OpV.t (v_fa rfl pt49_0_2 fd49_2) ?_)
              refine op_cons rfl (OpV.t (v_fa rfl pt26_0_2 fd26_2) ?_)
              refine op_cons rfl (t_storeC (y' := ((y138.2.l, y138.2.at_, (y138.2.m.name, y138.2.m.tagging, (TList.mk t143 (y138.2.m.names ++ ([y121.1] : (List Str)))), (TList.mk t140 y138.2.m.types), (Vh.mk v141 y138.2.m.nodes.length)), y138.2.e, y138.2.p) : ((List GTok) × Int × (Str × Int × (TList Str) × (TList Int) × Vh) × Int × Int))) ty22 rfl rfl isvT2 (.there .here) rfl ?_)
              refine rl_nil ?_
              refine fin_nxt ?_
              refine w_region ?_
              refine op_cons rfl (OpV.t (v_move rfl) ?_)
              refine op_cons rfl (OpV.t (v_move rfl) ?_)
              refine op_cons rfl (OpV.t (v_nilCheck rfl) ?_)
              refine op_cons rfl (OpV.t (v_fa rfl pt49_0_2 fd49_2) ?_)
              refine op_cons rfl (OpV.t (v_fa rfl pt26_0_3 fd26_3) ?_)
              refine op_cons rfl (t_loadC (R := appv t140 (y138.2.m.types)) ty23 rfl .here isvT1 ?_)
              refine op_cons rfl (OpV.t (v_move rfl) ?_)
              refine op_cons rfl (t_buildSlice (l := ([y138.1] : (List Int))) el23 (.cons rfl (fun _ _ h => h) .nil) rfl rfl ?_)
              refine asr_inv h fun q147 h => ?_
              refine op_cons rfl (t_appC (l := y138.2.m.types) (m := ([y138.1] : (List Int))) ap23_23 rfl (fun _ _ h => h) rfl appv_isv (.there (.there .here)) q147 fun t146 => ?_)
              refine op_cons rfl (OpV.t (v_nilCheck rfl) ?_)
              refine op_cons rfl (OpV.t (v_fa rfl pt49_0_2 fd49_2) ?_)
              refine op_cons rfl (OpV.t (v_fa rfl pt26_0_3 fd26_3) ?_)
              refine op_cons rfl (t_storeC (y' := ((y138.2.l, y138.2.at_, (y138.2.m.name, y138.2.m.tagging, (TList.mk t143 (y138.2.m.names ++ ([y121.1] : (List Str)))), (TList.mk t146 (y138.2.m.types ++ ([y138.1] : (List Int)))), (Vh.mk v141 y138.2.m.nodes.length)), y138.2.e, y138.2.p) : ((List GTok) × Int × (Str × Int × (TList Str) × (TList Int) × Vh) × Int × Int))) ty23 rfl rfl isvT2 (.there .here) rfl ?_)
              refine rl_nil ?_
              refine fin_block ?_
              exact hL50 _ (t143, t146, v141) h _ (join_imp 50 rfl rfl mod_nil (.cons .here (.cons (.there .here) (.cons .here (.cons .here (.cons .here .nil))))))
            · skip
              refine w_condM h rfl (fun _ h => ?_) (fun _ h => ?_)
              · skip
                refine w_region ?_
                refine op_cons rfl (OpV.t (v_move rfl) ?_)
                refine op_cons rfl (OpV.t (v_loadI ty53 rfl) ?_)
                refine cal_inv h fun y130 hy130 h => ?_
                refine op_cons rfl (t_call (r05_parser_fail_w hy130) hT (.same rfl (.same rfl (.same rfl .nil))) (.cons .here (.cons .here (.cons .here (.cons .here .nil)))) (fun R H' hR => ?_))
                obtain ⟨t131, t132, v133, rfl, rfl⟩ := hR
                refine rl_nil ?_
                exact hJ129 _ (t131, t132, v133) h _ (join_imp 3 rfl rfl mod_nil (.cons .here (.cons .here (.cons .here (.cons .here (.cons .here .nil))))))
              · skip
                refine w_skip ?_
                exact hJ129 _ (t122, t123, v124) h _ (join_imp 0 rfl rfl mod_nil (.cons .here (.cons .here (.cons .here (.cons .here (.cons .here .nil))))))
          · skip
            refine rl_condM (j := 80) h rfl (fun g127 h => ?_) (fun g127 h => ?_)
            · skip
              refine op_take rfl rfl (dj := 80) rfl g127 (OpV.t (v_move rfl) ?_)
              refine op_take rfl rfl (dj := 80) rfl g127 (OpV.t (v_nilCheck rfl) ?_)
              refine op_take rfl rfl (dj := 80) rfl g127 (OpV.t (v_fa rfl pt49_0_2 fd49_2) ?_)
              refine op_take rfl rfl (dj := 80) rfl g127 (OpV.t (v_fa rfl pt26_0_2 fd26_2) ?_)
              refine op_take rfl rfl (dj := 80) rfl g127 (t_loadC (R := appv t122 (y121.2.m.names)) ty22 rfl .here isvT1 ?_)
              refine op_take rfl rfl (dj := 80) rfl g127 (OpV.t (v_ln (l := y121.2.m.names) rfl appv_isv sl22) ?_)
              refine op_take rfl rfl (dj := 80) rfl g127 (OpV.t (v_geq rfl rfl) ?_)
              refine op_cons rfl (OpV.t (v_pick_t rfl g127 rfl) ?_)
              exact hJ126 _ () h _ (join_imp 8 rfl rfl (mod_cons (j := 88) rfl (fun _ _ h => h) mod_nil) (.cons .here (.cons .here (.cons .here (.cons .here (.cons .here .nil))))))
            · skip
              refine op_pass rfl (dj := 80) rfl g127 ?_
              refine op_pass rfl (dj := 80) rfl g127 ?_
              refine op_pass rfl (dj := 80) rfl g127 ?_
              refine op_pass rfl (dj := 80) rfl g127 ?_
              refine op_pass rfl (dj := 80) rfl g127 ?_
              refine op_pass rfl (dj := 80) rfl g127 ?_
              refine op_pass rfl (dj := 80) rfl g127 ?_
              refine op_cons rfl (OpV.t (v_pick_f rfl g127 rfl) ?_)
              exact hJ126 _ () h _ (join_imp 8 rfl rfl (mod_cons (j := 88) rfl (fun _ _ h => h) mod_nil) (.cons .here (.cons .here (.cons .here (.cons .here (.cons .here .nil))))))
        · skip
          refine w_exit ?_
          refine exi_nxt ?_
          refine eL50 _ _ ?_
          refine exi_block ?_
          refine fin_nxt ?_
          refine w_seq ?_
          refine w_seq ?_
          refine w_region ?_
          refine op_cons rfl (OpV.t (v_move rfl) ?_)
          refine op_cons rfl (OpV.t (v_nilCheck rfl) ?_)
          refine op_cons rfl (OpV.t (v_fa rfl pt49_0_3 fd49_3) ?_)
          refine op_cons rfl (t_loadC (R := isv (q109.2.e)) ty27 rfl .here (fun _ _ h => h) ?_)
          refine op_cons rfl (OpV.t (v_eql rfl rfl) ?_)
          refine op_cons rfl (OpV.t (v_move rfl) ?_)
          refine rl_j (ι := Bool × GPar) (γ := Tok × Tok × Vt) (fun q148 g148 => [(130, isv (q148.1))]) (fun q148 g148 => [boxE b3 ((q148.2.l, q148.2.at_, (q148.2.m.name, q148.2.m.tagging, (TList.mk g148.1 q148.2.m.names), (TList.mk g148.2.1 q148.2.m.types), (Vh.mk g148.2.2 q148.2.m.nodes.length)), q148.2.e, q148.2.p) : ((List GTok) × Int × (Str × Int × (TList Str) × (TList Int) × Vh) × Int × Int)), tokE g148.1, tokE g148.2.1, vecE g148.2.2 (q148.2.m.nodes : List GNode)]) (.cons .here (.cons .here (.cons .here (.cons .here .nil)))) h 5 rfl (fun q148 g148 h => ?_) (fun J149 h hJ149 => ?_)
          · skip
            refine rl_nil ?_
            refine fin_nxt ?_
            refine w_J (ι := GPar) (γ := Tok × Tok × Vt) (fun q155 g155 => []) (fun q155 g155 => [boxE b3 ((q155.l, q155.at_, (q155.m.name, q155.m.tagging, (TList.mk g155.1 q155.m.names), (TList.mk g155.2.1 q155.m.types), (Vh.mk g155.2.2 q155.m.nodes.length)), q155.e, q155.p) : ((List GTok) × Int × (Str × Int × (TList Str) × (TList Int) × Vh) × Int × Int)), tokE g155.1, tokE g155.2.1, vecE g155.2.2 (q155.m.nodes : List GNode)]) (.cons .here (.cons .here (.cons .here (.cons .here .nil)))) h (fun q155 g155 h => ?_) (fun J156 h hJ156 => ?_)
            · skip
              refine w_seq ?_
              refine w_seq ?_
              refine w_region ?_
              refine op_cons rfl (OpV.t (v_move rfl) ?_)
              refine op_cons rfl (OpV.t (v_nilCheck rfl) ?_)
              refine op_cons rfl (OpV.t (v_fa rfl pt49_0_3 fd49_3) ?_)
              refine op_cons rfl (t_loadC (R := isv (q155.e)) ty27 rfl .here (fun _ _ h => h) ?_)
              refine op_cons rfl (OpV.t (v_neq rfl rfl) ?_)
              refine rl_nil ?_
              refine fin_nxt ?_
              refine w_condM h rfl (fun _ h => ?_) (fun _ h => ?_)
              · skip
                refine w_seq ?_
                refine w_pinN 8 .here rfl (fun o165 hn166 => ?_)
                refine w_regionD (.v 0 (.v 1 (.v 2 (.v 3 (.v 4 (.v 5 (.v 6 (.v 7 (.v 8 (.t 9 (.v 10 (.v 11 .nil)))))))))))) moOrd (by kernel_rfl) ?_
                refine rd_v rfl (v_build (z := (GMod.mk (Str.mk []) (0 : Int) ([] : (List Str)) ([] : (List Int)) ([] : (List GNode)))) rfl bu26 ze26 .nil) ?_
                refine rd_v rfl (v_move rfl) ?_
                refine rd_v rfl (v_nilCheckP rfl) ?_
                refine rd_v rfl (v_fp rfl pt49_0_4 fd49_4) ?_
                refine rd_v rfl (v_lpC (R := isv (q155.p)) ty3 rfl (by simp) (fun _ _ h => h)) ?_
                refine rd_v rfl (v_move rfl) ?_
                refine rd_v rfl (v_nilCheckP rfl) ?_
                refine rd_v rfl (v_fp rfl pt49_0_3 fd49_3) ?_
                refine rd_v rfl (v_lpC (R := isv (q155.e)) ty27 rfl (by simp) (fun _ _ h => h)) ?_
                refine rd_t rfl rfl (t_storeC (y' := ((GMod.mk (Str.mk []) (0 : Int) ([] : (List Str)) ([] : (List Int)) ([] : (List GNode))) : GMod)) ty26 rfl rfl (fun _ _ h => h) (.there (.there (.there .here))) rfl ?_)
                refine rd_v rfl (v_assign rfl) ?_
                refine rd_v rfl (v_assign rfl) ?_
                refine rd_nil ?_
                refine fin_unpinN 8 hn166 rfl ?_
                refine fin_nxt ?_
                refine w_ret ?_
                refine ret_nxt ?_
                refine ret_post (.cell rfl (.there .here) ty26 (.tmp rfl (.tmp rfl .nil))) .nil ?_
                obtain rfl := Option.some.inj h
                exact ⟨rfl, rfl⟩
              · skip
                refine w_skip ?_
                refine fin_nxt ?_
                refine w_seq ?_
                refine w_region ?_
                refine op_cons rfl (OpV.t (v_move rfl) ?_)
                refine op_cons rfl (OpV.t (v_nilCheck rfl) ?_)
                refine op_cons rfl (OpV.t (v_fa rfl pt49_0_2 fd49_2) ?_)
                refine rl_upd (upd_frzB (y := ((q155.l, q155.at_, (q155.m.name, q155.m.tagging, (TList.mk g155.1 q155.m.names), (TList.mk g155.2.1 q155.m.types), q155.m.nodes), q155.e, q155.p) : ((List GTok) × Int × (Str × Int × (TList Str) × (TList Int) × (List GNode)) × Int × Int))) (.there (.there (.there .here))) .here (fun S hv => (Cv.pair Cv.id (Cv.pair Cv.id (Cv.pair (Cv.pair Cv.id (Cv.pair Cv.id (Cv.pair Cv.id (Cv.pair Cv.id (Cv.vh hv (by first | rfl | simp)))))) (Cv.pair Cv.id Cv.id)))))) ?_
                refine rl_upd (upd_slot (R' := ptrv b3 ((Fld.id (((List GTok) × Int × (Str × Int × (TList Str) × (TList Int) × (List GNode)) × Int × Int))).comp pt49_1_2)) 151 rfl (fun _ _ h => h)) ?_
                refine op_cons rfl (t_loadC (y := ((q155.l, q155.at_, (q155.m.name, q155.m.tagging, (TList.mk g155.1 q155.m.names), (TList.mk g155.2.1 q155.m.types), q155.m.nodes), q155.e, q155.p) : ((List GTok) × Int × (Str × Int × (TList Str) × (TList Int) × (List GNode)) × Int × Int))) (R := isv (((q155.m.name, q155.m.tagging, (TList.mk g155.1 q155.m.names), (TList.mk g155.2.1 q155.m.types), q155.m.nodes)) : ((Str × Int × (TList Str) × (TList Int) × (List GNode))))) ty26 rfl .here (by exact (fun _ _ h => h)) ?_)
                refine rl_upd (upd_slot (R' := isv (q155.m)) 152 rfl (Cv.isv rfl fun S => (fun cs h => GMod.cv (x := q155.m) cs (((Cv.pair Cv.id (Cv.pair Cv.id (Cv.pair Cv.tl (Cv.pair Cv.tl Cv.id)))) : Cv S ((q155.m.name, q155.m.tagging, (TList.mk g155.1 q155.m.names), (TList.mk g155.2.1 q155.m.types), q155.m.nodes) : (Str × Int × (TList Str) × (TList Int) × (List GNode))) (GMod.to q155.m)) cs h)))) ?_
                refine op_cons rfl (t_storeC (y' := (q155.m : GMod)) ty26 rfl rfl (fun _ _ h => h) (.there (.there (.there .here))) rfl ?_)
                refine op_cons rfl (OpV.t (v_assign rfl) ?_)
                refine op_cons rfl (OpV.t (v_assign rfl) ?_)
                refine rl_nil ?_
                refine fin_nxt ?_
                refine w_ret ?_
                refine ret_post (.cell rfl .here ty26 (.tmp rfl (.tmp rfl .nil))) .nil ?_
                obtain rfl := Option.some.inj h
                exact ⟨rfl, rfl⟩
            · skip
              refine w_condM h rfl (fun _ h => ?_) (fun _ h => ?_)
              · skip
                refine w_region ?_
                refine op_cons rfl (OpV.t (v_move rfl) ?_)
                refine op_cons rfl (OpV.t (v_move rfl) ?_)
                refine cal_inv h fun y157 hy157 h => ?_
                refine op_cons rfl (t_call (r05_parser_now_w hy157) hT (.same rfl .nil) (.cons .here (.cons .here (.cons .here (.cons .here .nil)))) (fun R H' hR => ?_))
                obtain ⟨t158, t159, v160, rfl, rfl⟩ := hR
                refine cal_inv h fun y161 hy161 h => ?_
                refine op_cons rfl (t_call (r05_parser_fail_w hy161) hT (.same rfl (.same rfl (.same rfl .nil))) (.cons .here (.cons .here (.cons .here (.cons .here .nil)))) (fun R H' hR => ?_))
                obtain ⟨t162, t163, v164, rfl, rfl⟩ := hR
                refine rl_nil ?_
                exact hJ156 _ (t162, t163, v164) h _ (join_imp 4 rfl rfl mod_nil (.cons .here (.cons .here (.cons .here (.cons .here (.cons .here .nil))))))
              · skip
                refine w_skip ?_
                exact hJ156 _ (g148.1, g148.2.1, g148.2.2) h _ (join_imp 0 rfl rfl mod_nil (.cons .here (.cons .here (.cons .here (.cons .here (.cons .here .nil))))))
          · skip
            refine rl_condM (j := 125) h rfl (fun g150 h => ?_) (fun g150 h => ?_)
            · skip
              refine op_take rfl rfl (dj := 125) rfl g150 (OpV.t (v_move rfl) ?_)
              refine cal_inv h fun y151 hy151 h => ?_
              refine op_take rfl rfl (dj := 125) rfl g150 (t_call (r05_parser_now_w hy151) hT (.same rfl .nil) (.cons .here (.cons .here (.cons .here (.cons .here .nil)))) (fun R H' hR => ?_))
              obtain ⟨t152, t153, v154, rfl, rfl⟩ := hR
              refine op_take rfl rfl (dj := 125) rfl g150 (OpV.t (v_field GTok.f0 rfl fd53_0 rfl) ?_)
              refine op_take rfl rfl (dj := 125) rfl g150 (OpV.t (v_neq rfl rfl) ?_)
              refine op_cons rfl (OpV.t (v_pick_t rfl g150 rfl) ?_)
              exact hJ149 _ (t152, t153, v154) h _ (join_imp 5 rfl rfl (mod_cons (j := 130) rfl (fun _ _ h => h) mod_nil) (.cons .here (.cons .here (.cons .here (.cons .here (.cons .here .nil))))))
            · skip
              refine op_pass rfl (dj := 125) rfl g150 ?_
              refine op_pass rfl (dj := 125) rfl g150 ?_
              refine op_pass rfl (dj := 125) rfl g150 ?_
              refine op_pass rfl (dj := 125) rfl g150 ?_
              refine op_cons rfl (OpV.t (v_pick_f rfl g150 rfl) ?_)
              exact hJ149 _ (g109.1, g109.2.1, g109.2.2) h _ (join_imp 5 rfl rfl (mod_cons (j := 130) rfl (fun _ _ h => h) mod_nil) (.cons .here (.cons .here (.cons .here (.cons .here (.cons .here .nil))))))
      · skip
        refine rl_condM (j := 66) h rfl (fun g111 h => ?_) (fun g111 h => ?_)
        · skip
          refine op_take rfl rfl (dj := 66) rfl g111 (OpV.t (v_move rfl) ?_)
          refine cal_inv h fun y112 hy112 h => ?_
          refine op_take rfl rfl (dj := 66) rfl g111 (t_call (r05_parser_is_w hy112) hT (.same rfl (.same rfl .nil)) (.cons .here (.cons .here (.cons .here (.cons .here .nil)))) (fun R H' hR => ?_))
          obtain ⟨t113, t114, v115, rfl, rfl⟩ := hR
          refine op_take rfl rfl (dj := 66) rfl g111 (OpV.t (v_not rfl) ?_)
          refine op_cons rfl (OpV.t (v_pick_t rfl g111 rfl) ?_)
          exact hJ110 _ (t113, t114, v115) h _ (join_imp 4 rfl rfl (mod_cons (j := 70) rfl (fun _ _ h => h) mod_nil) (.cons .here (.cons .here (.cons .here (.cons .here (.cons .here .nil))))))
        · skip
          refine op_pass rfl (dj := 66) rfl g111 ?_
          refine op_pass rfl (dj := 66) rfl g111 ?_
          refine op_pass rfl (dj := 66) rfl g111 ?_
          refine op_cons rfl (OpV.t (v_pick_f rfl g111 rfl) ?_)
          exact hJ110 _ (g49.1, g49.2.1, g49.2.2) h _ (join_imp 4 rfl rfl (mod_cons (j := 70) rfl (fun _ _ h => h) mod_nil) (.cons .here (.cons .here (.cons .here (.cons .here (.cons .here .nil))))))
    · skip
      refine w_block ?_
      refine w_seq ?_
      refine w_region ?_
      refine op_cons rfl (OpV.t (v_move rfl) ?_)
      refine cal_inv h fun y17 hy17 h => ?_
      refine op_cons rfl (t_call (r05_parser_is_w hy17) hT (.same rfl (.same rfl .nil)) (.cons .here (.cons .here (.cons .here (.cons .here .nil)))) (fun R H' hR => ?_))
      obtain ⟨t18, t19, v20, rfl, rfl⟩ := hR
      refine op_cons rfl (OpV.t (v_assign rfl) ?_)
      refine rl_nil ?_
      refine fin_nxt ?_
      refine w_condM h rfl (fun _ h => ?_) (fun _ h => ?_)
      · skip
        refine w_region ?_
        refine op_cons rfl (OpV.t (v_move rfl) ?_)
        refine cal_inv h fun y21 hy21 h => ?_
        refine op_cons rfl (t_call (r05_parser_must_w hy21) hT (.same rfl (.same rfl .nil)) (.cons .here (.cons .here (.cons .here (.cons .here .nil)))) (fun R H' hR => ?_))
        obtain ⟨t22, t23, v24, rfl, rfl⟩ := hR
        refine rl_nil ?_
        refine fin_block ?_
        exact hJ16 _ (t22, t23, v24) h _ (join_imp 5 rfl rfl mod_nil (.cons .here (.cons .here (.cons .here (.cons .here (.cons .here .nil))))))
      · skip
        refine w_seq ?_
        refine w_region ?_
        refine op_cons rfl (OpV.t (v_move rfl) ?_)
        refine cal_inv h fun y25 hy25 h => ?_
        refine op_cons rfl (t_call (r05_parser_is_w hy25) hT (.same rfl (.same rfl .nil)) (.cons .here (.cons .here (.cons .here (.cons .here .nil)))) (fun R H' hR => ?_))
        obtain ⟨t26, t27, v28, rfl, rfl⟩ := hR
        refine op_cons rfl (OpV.t (v_assign rfl) ?_)
        refine rl_nil ?_
        refine fin_nxt ?_
        refine w_condM h rfl (fun _ h => ?_) (fun _ h => ?_)
        · skip
          refine w_seq ?_
          refine w_region ?_
          refine op_cons rfl (OpV.t (v_move rfl) ?_)
          refine op_cons rfl (OpV.t (v_nilCheck rfl) ?_)
          refine op_cons rfl (OpV.t (v_fa rfl pt49_0_2 fd49_2) ?_)
          refine op_cons rfl (OpV.t (v_fa rfl pt26_0_1 fd26_1) ?_)
          refine op_cons rfl (t_storeC (y' := ((y25.2.l, y25.2.at_, (y25.2.m.name, (1 : Int), (TList.mk t26 y25.2.m.names), (TList.mk t27 y25.2.m.types), (Vh.mk v28 y25.2.m.nodes.length)), y25.2.e, y25.2.p) : ((List GTok) × Int × (Str × Int × (TList Str) × (TList Int) × Vh) × Int × Int))) ty3 rfl rfl (fun _ _ h => h) .here rfl ?_)
          refine rl_nil ?_
          refine fin_nxt ?_
          refine w_region ?_
          refine op_cons rfl (OpV.t (v_move rfl) ?_)
          refine cal_inv h fun y29 hy29 h => ?_
          refine op_cons rfl (t_call (r05_parser_must_w hy29) hT (.same rfl (.same rfl .nil)) (.cons .here (.cons .here (.cons .here (.cons .here .nil)))) (fun R H' hR => ?_))
          obtain ⟨t30, t31, v32, rfl, rfl⟩ := hR
          refine rl_nil ?_
          refine fin_block ?_
          exact hJ16 _ (t30, t31, v32) h _ (join_imp 12 rfl rfl mod_nil (.cons .here (.cons .here (.cons .here (.cons .here (.cons .here .nil))))))
        · skip
          refine w_seq ?_
          refine w_region ?_
          refine op_cons rfl (OpV.t (v_move rfl) ?_)
          refine cal_inv h fun y33 hy33 h => ?_
          refine op_cons rfl (t_call (r05_parser_is_w hy33) hT (.same rfl (.same rfl .nil)) (.cons .here (.cons .here (.cons .here (.cons .here .nil)))) (fun R H' hR => ?_))
          obtain ⟨t34, t35, v36, rfl, rfl⟩ := hR
          refine op_cons rfl (OpV.t (v_assign rfl) ?_)
          refine rl_nil ?_
          refine fin_nxt ?_
          refine w_condM h rfl (fun _ h => ?_) (fun _ h => ?_)
          · skip
            refine w_seq ?_
            refine w_region ?_
            refine op_cons rfl (OpV.t (v_move rfl) ?_)
            refine op_cons rfl (OpV.t (v_nilCheck rfl) ?_)
            refine op_cons rfl (OpV.t (v_fa rfl pt49_0_2 fd49_2) ?_)
            refine op_cons rfl (OpV.t (v_fa rfl pt26_0_1 fd26_1) ?_)
            refine op_cons rfl (t_storeC (y' := ((y33.2.l, y33.2.at_, (y33.2.m.name, (2 : Int), (TList.mk t34 y33.2.m.names), (TList.mk t35 y33.2.m.types), (Vh.mk v36 y33.2.m.nodes.length)), y33.2.e, y33.2.p) : ((List GTok) × Int × (Str × Int × (TList Str) × (TList Int) × Vh) × Int × Int))) ty3 rfl rfl (fun _ _ h => h) .here rfl ?_)
            refine rl_nil ?_
            refine fin_nxt ?_
            refine w_region ?_
            refine op_cons rfl (OpV.t (v_move rfl) ?_)
            refine cal_inv h fun y37 hy37 h => ?_
            refine op_cons rfl (t_call (r05_parser_must_w hy37) hT (.same rfl (.same rfl .nil)) (.cons .here (.cons .here (.cons .here (.cons .here .nil)))) (fun R H' hR => ?_))
            obtain ⟨t38, t39, v40, rfl, rfl⟩ := hR
            refine rl_nil ?_
            refine fin_block ?_
            exact hJ16 _ (t38, t39, v40) h _ (join_imp 15 rfl rfl mod_nil (.cons .here (.cons .here (.cons .here (.cons .here (.cons .here .nil))))))
          · skip
            refine w_skip ?_
            refine fin_block ?_
            exact hJ16 _ (t34, t35, v36) h _ (join_imp 9 rfl rfl mod_nil (.cons .here (.cons .here (.cons .here (.cons .here (.cons .here .nil))))))


theorem refs_of_w : ∀ {a_m : GMod} {a_at_ : Int} {r : Int}, refs_of a_m a_at_ = some r → Ctr Tryd.prog 26 [isv (a_m), isv (a_at_)] [] (fun R H => R = oneOf [isv (r)] ∧ H = []) := by
  intro a_m a_at_ r h
  unfold refs_of at h
  refine spec_intro Tryd.func26 rfl (by decide +kernel) (by rfl) fun w0 S0 hT => ?_
  refine w_seq ?_
  refine w_region ?_
  refine op_cons rfl (t_boxIC (y := a_m) rfl (fun _ _ h => h) ?_)
  refine op_cons rfl (OpV.t (v_assign rfl) ?_)
  refine rl_nil ?_
  refine fin_nxt ?_
  refine w_seq ?_
  refine w_seq ?_
  refine w_region ?_
  refine op_cons rfl (OpV.t (v_move rfl) ?_)
  refine op_cons rfl (OpV.t (v_fi rfl GMod.f3 fd26_3 rfl (z := a_m.types)) ?_)
  refine op_cons rfl (OpV.t (v_loadI ty23 rfl) ?_)
  refine op_cons rfl (OpV.t (v_ln (l := a_m.types) rfl (fun _ _ h => h) sl23) ?_)
  refine op_cons rfl (OpV.t (v_geq rfl rfl) ?_)
  refine rl_nil ?_
  refine fin_nxt ?_
  refine w_condM h rfl (fun _ h => ?_) (fun _ h => ?_)
  · skip
    refine w_seq ?_
    refine w_region ?_
    refine op_cons rfl (OpV.t (v_assign rfl) ?_)
    refine rl_nil ?_
    refine fin_nxt ?_
    refine w_ret ?_
    refine ret_nxt ?_
    refine ret_post (.tmp rfl .nil) .nil ?_
    obtain rfl := Option.some.inj h
    exact ⟨rfl, rfl⟩
  · skip
    refine w_skip ?_
    refine fin_nxt ?_
    refine w_seq ?_
    refine w_region ?_
    refine op_cons rfl (OpV.t (v_fi rfl GMod.f3 fd26_3 rfl (z := a_m.types)) ?_)
    refine op_cons rfl (OpV.t (v_loadI ty23 rfl) ?_)
    refine op_cons rfl (OpV.t (v_move rfl) ?_)
    refine cal_inv h fun y1 hy1 h => ?_
    refine op_cons rfl (OpV.t (v_ix (l := a_m.types) rfl (fun _ _ h => h) rfl sl23 hy1) ?_)
    refine op_cons rfl (OpV.t (v_loadI ty3 rfl) ?_)
    refine op_cons rfl (OpV.t (v_assign rfl) ?_)
    refine rl_nil ?_
    refine fin_nxt ?_
    refine w_ret ?_
    refine ret_post (.tmp rfl .nil) .nil ?_
    obtain rfl := Option.some.inj h
    exact ⟨rfl, rfl⟩


theorem slices_Index_Lstring_string_w : ∀ {a_s : (List Str)} {a_v : Str} {r : Int}, slices_Index_Lstring_string a_s a_v = some r → Ctr Tryd.prog 34 [isv (a_s), isv (a_v)] [] (fun R H => R = oneOf [isv (r)] ∧ H = []) := by
  intro a_s a_v r h
  unfold slices_Index_Lstring_string at h
  refine spec_intro Tryd.func34 rfl (by decide +kernel) (by rfl) fun w0 S0 hT => ?_
  refine w_seq ?_
  refine w_region ?_
  refine op_cons rfl (OpV.t (v_assign rfl) ?_)
  refine rl_nil ?_
  refine fin_nxt ?_
  refine w_seq ?_
  refine w_seq ?_
  refine w_region ?_
  refine op_cons rfl (OpV.t (v_move rfl) ?_)
  refine op_cons rfl (OpV.t (v_ln (l := a_s) rfl (fun _ _ h => h) sl22) ?_)
  refine op_cons rfl (OpV.t (v_move rfl) ?_)
  refine rl_nil ?_
  refine fin_nxt ?_
  refine w_block ?_
  refine w_lp (ι := Int) (γ := Unit) (fun q1 g1 => [(8, isv (q1))]) (fun q1 g1 => []) h () (mod_cons (j := 8) rfl (fun _ _ h => h) mod_nil) .nil (fun L2 q1 g1 Q7 h hL2 eL2 rL2 => ?_)
  refine w_seq ?_
  refine w_region ?_
  refine op_cons rfl (OpV.t (v_lss rfl rfl) ?_)
  refine rl_nil ?_
  refine fin_nxt ?_
  refine w_seq ?_
  refine w_condM h rfl (fun _ h => ?_) (fun _ h => ?_)
  · skip
    refine w_skip ?_
    refine fin_nxt ?_
    refine w_seq ?_
    refine w_block ?_
    refine w_seq ?_
    refine w_region ?_
    refine op_cons rfl (OpV.t (v_move rfl) ?_)
    refine op_cons rfl (OpV.t (v_assign rfl) ?_)
    refine rl_nil ?_
    refine fin_nxt ?_
    refine w_seq ?_
    refine w_region ?_
    refine op_cons rfl (OpV.t (v_move rfl) ?_)
    refine op_cons rfl (OpV.t (v_move rfl) ?_)
    refine op_cons rfl (OpV.t (v_move rfl) ?_)
    refine cal_inv h fun y5 hy5 h => ?_
    refine op_cons rfl (OpV.t (v_ix (l := a_s) rfl (fun _ _ h => h) rfl sl22 hy5) ?_)
    refine op_cons rfl (OpV.t (v_loadI ty9 rfl) ?_)
    refine op_cons rfl (OpV.t (v_eqA eq9 rfl rfl) ?_)
    refine rl_nil ?_
    refine fin_nxt ?_
    refine w_condM h rfl (fun _ h => ?_) (fun _ h => ?_)
    · skip
      refine w_seq ?_
      refine w_region ?_
      refine op_cons rfl (OpV.t (v_move rfl) ?_)
      refine op_cons rfl (OpV.t (v_assign rfl) ?_)
      refine rl_nil ?_
      refine fin_nxt ?_
      refine w_ret ?_
      refine ret_block ?_
      refine ret_nxt ?_
      refine rL2 _ ?_
      refine ret_block ?_
      refine ret_nxt ?_
      refine ret_post (.tmp rfl .nil) .nil ?_
      obtain rfl := Option.some.inj h
      exact ⟨rfl, rfl⟩
    · skip
      refine w_skip ?_
      refine fin_block ?_
      refine fin_nxt ?_
      refine w_region ?_
      refine ck_inv h fun q6 h => ?_
      refine op_cons rfl (OpV.t (v_add rfl rfl q6) ?_)
      refine op_cons rfl (OpV.t (v_move rfl) ?_)
      refine rl_nil ?_
      exact hL2 _ () h _ (join_imp 12 rfl rfl (mod_cons (j := 8) rfl (fun _ _ h => h) mod_nil) .nil)
  · skip
    refine w_exit ?_
    refine exi_nxt ?_
    refine eL2 _ _ ?_
    refine exi_block ?_
    refine fin_nxt ?_
    refine w_seq ?_
    refine w_region ?_
    refine op_cons rfl (OpV.t (v_assign rfl) ?_)
    refine rl_nil ?_
    refine fin_nxt ?_
    refine w_ret ?_
    refine ret_post (.tmp rfl .nil) .nil ?_
    obtain rfl := Option.some.inj h
    exact ⟨rfl, rfl⟩


theorem slices_Contains_Lstring_string_w : ∀ {a_s : (List Str)} {a_v : Str} {r : Bool}, slices_Contains_Lstring_string a_s a_v = some r → Ctr Tryd.prog 67 [isv (a_s), isv (a_v)] [] (fun R H => R = oneOf [isv (r)] ∧ H = []) := by
  intro a_s a_v r h
  unfold slices_Contains_Lstring_string at h
  refine spec_intro Tryd.func67 rfl (by decide +kernel) (by rfl) fun w0 S0 hT => ?_
  refine w_seq ?_
  refine w_region ?_
  refine op_cons rfl (OpV.t (v_assign rfl) ?_)
  refine rl_nil ?_
  refine fin_nxt ?_
  refine w_seq ?_
  refine w_region ?_
  refine op_cons rfl (OpV.t (v_move rfl) ?_)
  refine op_cons rfl (OpV.t (v_move rfl) ?_)
  refine cal_inv h fun y1 hy1 h => ?_
  refine op_cons rfl (t_call (slices_Index_Lstring_string_w hy1) hT (.same rfl (.same rfl .nil)) .nil (fun R H' hR => ?_))
  obtain ⟨rfl, rfl⟩ := hR
  refine op_cons rfl (OpV.t (v_geq rfl rfl) ?_)
  refine op_cons rfl (OpV.t (v_assign rfl) ?_)
  refine rl_nil ?_
  refine fin_nxt ?_
  refine w_ret ?_
  refine ret_post (.tmp rfl .nil) .nil ?_
  obtain rfl := Option.some.inj h
  exact ⟨rfl, rfl⟩


theorem refs_with_w : ∀ {a_l : (List Str)} {a_more : (List Str)} {t_a_l : Tok} {r : (List Str)}, refs_with a_l a_more = some r → Ctr Tryd.prog 50 [appv t_a_l (a_l), isv (a_more)] [tokE t_a_l] (fun R H => ∃ u1 : Tok, R = oneOf [appv u1 (r)] ∧ H = [tokE u1]) := by
  intro a_l a_more t_a_l r h
  unfold refs_with at h
  refine spec_intro Tryd.func50 rfl (by decide +kernel) (by rfl) fun w0 S0 hT => ?_
  refine w_seq ?_
  refine w_region ?_
  refine op_cons rfl (OpV.t (v_assign rfl) ?_)
  refine rl_nil ?_
  refine fin_nxt ?_
  refine w_seq ?_
  refine w_seq ?_
  refine w_region ?_
  refine op_cons rfl (OpV.t (v_move rfl) ?_)
  refine op_cons rfl (OpV.t (v_ln (l := a_more) rfl (fun _ _ h => h) sl22) ?_)
  refine op_cons rfl (OpV.t (v_move rfl) ?_)
  refine rl_nil ?_
  refine fin_nxt ?_
  refine w_block ?_
  refine w_lp (ι := (List Str) × Int) (γ := Tok) (fun q1 g1 => [(0, appv g1 (q1.1)), (9, isv (q1.2))]) (fun q1 g1 => [tokE g1]) h (t_a_l) (mod_cons (j := 0) rfl (fun _ _ h => h) (mod_cons (j := 9) rfl (fun _ _ h => h) mod_nil)) (.cons .here .nil) (fun L2 q1 g1 Q19 h hL2 eL2 rL2 => ?_)
  refine w_seq ?_
  refine w_region ?_
  refine op_cons rfl (OpV.t (v_lss rfl rfl) ?_)
  refine rl_nil ?_
  refine fin_nxt ?_
  refine w_seq ?_
  refine w_condM h rfl (fun _ h => ?_) (fun _ h => ?_)
  · skip
    refine w_skip ?_
    refine fin_nxt ?_
    refine w_seq ?_
    refine w_J (ι := (List Str)) (γ := Tok) (fun q11 g11 => [(0, appv g11 (q11))]) (fun q11 g11 => [tokE g11]) (.cons .here .nil) h (fun q11 g11 h => ?_) (fun J12 h hJ12 => ?_)
    · skip
      refine w_region ?_
      refine ck_inv h fun q18 h => ?_
      refine op_cons rfl (OpV.t (v_add rfl rfl q18) ?_)
      refine op_cons rfl (OpV.t (v_move rfl) ?_)
      refine rl_nil ?_
      exact hL2 _ (g11) h _ (join_imp 6 rfl rfl (mod_cons (j := 0) rfl (fun _ _ h => h) (mod_cons (j := 9) rfl (fun _ _ h => h) mod_nil)) (.cons .here .nil))
    · skip
      refine w_block ?_
      refine w_seq ?_
      refine w_region ?_
      refine cal_inv h fun y13 hy13 h => ?_
      refine op_cons rfl (OpV.t (v_ix (l := a_more) rfl (fun _ _ h => h) rfl sl22 hy13) ?_)
      refine op_cons rfl (OpV.t (v_loadI ty9 rfl) ?_)
      refine op_cons rfl (OpV.t (v_assign rfl) ?_)
      refine rl_nil ?_
      refine fin_nxt ?_
      refine w_seq ?_
      refine w_region ?_
      refine op_cons rfl (OpV.t (v_move rfl) ?_)
      refine op_cons rfl (OpV.t (v_move rfl) ?_)
      refine cal_inv h fun y14 hy14 h => ?_
      refine op_cons rfl (t_call (slices_Contains_Lstring_string_w hy14) hT (.cons rfl appv_isv (.same rfl .nil)) .nil (fun R H' hR => ?_))
      obtain ⟨rfl, rfl⟩ := hR
      refine op_cons rfl (OpV.t (v_not rfl) ?_)
      refine rl_nil ?_
      refine fin_nxt ?_
      refine w_condM h rfl (fun _ h => ?_) (fun _ h => ?_)
      · skip
        refine w_region ?_
        refine op_cons rfl (OpV.t (v_move rfl) ?_)
        refine op_cons rfl (OpV.t (v_move rfl) ?_)
        refine op_cons rfl (t_buildSlice (l := ([y13] : (List Str))) el22 (.cons rfl (fun _ _ h => h) .nil) rfl rfl ?_)
        refine asr_inv h fun q17 h => ?_
        refine op_cons rfl (t_appC (l := q1.1) (m := ([y13] : (List Str))) ap22_22 rfl (fun _ _ h => h) rfl appv_isv .here q17 fun t16 => ?_)
        refine op_cons rfl (OpV.t (v_assign rfl) ?_)
        refine rl_nil ?_
        refine fin_block ?_
        exact hJ12 _ (t16) h _ (join_imp 12 rfl rfl (mod_cons (j := 0) rfl (fun _ _ h => h) mod_nil) (.cons .here .nil))
      · skip
        refine w_skip ?_
        refine fin_block ?_
        exact hJ12 _ (g1) h _ (join_imp 7 rfl rfl (mod_cons (j := 0) rfl (fun _ _ h => h) mod_nil) (.cons .here .nil))
  · skip
    refine w_exit ?_
    refine exi_nxt ?_
    refine eL2 _ _ ?_
    refine exi_block ?_
    refine fin_nxt ?_
    refine w_seq ?_
    refine w_region ?_
    refine op_cons rfl (OpV.t (v_move rfl) ?_)
    refine op_cons rfl (OpV.t (v_assign rfl) ?_)
    refine rl_nil ?_
    refine fin_nxt ?_
    refine w_ret ?_
    refine ret_post (.tmp rfl .nil) (.cons .here .nil) ?_
    obtain rfl := Option.some.inj h
    exact ⟨g1, rfl, rfl⟩


theorem refs_refers_c1_w : ∀ {a_n_ : GNode} {a_a1 : (List Str)} {b_a_a1 : Nat} {t_a_a11 : Tok} {r : (List Str)}, refs_refers_c1 a_n_ a_a1 = some r → Ctr Tryd.prog 49 [isv (a_n_), ptrv b_a_a1 (Fld.id (TList Str))] [boxE b_a_a1 ((TList.mk t_a_a11 a_a1) : (TList Str)), tokE t_a_a11] (fun R H => ∃ u1 : Tok, R = oneOf [] ∧ H = [boxE b_a_a1 ((TList.mk u1 r)), tokE u1]) := by
  intro a_n_ a_a1 b_a_a1 t_a_a11 r h
  unfold refs_refers_c1 at h
  refine spec_intro Tryd.func49 rfl (by decide +kernel) (by rfl) fun w0 S0 hT => ?_
  refine w_seq ?_
  refine w_region ?_
  refine op_cons rfl (t_boxIC (y := a_n_) rfl (fun _ _ h => h) ?_)
  refine rl_nil ?_
  refine fin_nxt ?_
  refine w_seq ?_
  refine w_region ?_
  refine op_cons rfl (OpV.t (v_fi rfl GNode.f0 fd83_0 rfl (z := a_n_.kind)) ?_)
  refine op_cons rfl (OpV.t (v_loadI ty3 rfl) ?_)
  refine op_cons rfl (OpV.t (v_eql rfl rfl) ?_)
  refine rl_nil ?_
  refine fin_nxt ?_
  refine w_condM h rfl (fun _ h => ?_) (fun _ h => ?_)
  · skip
    refine w_region ?_
    refine op_cons rfl (t_loadC (R := appv t_a_a11 (a_a1)) ty22 rfl .here isvT1 ?_)
    refine op_cons rfl (OpV.t (v_fi rfl GNode.f1 fd83_1 rfl (z := a_n_.name)) ?_)
    refine op_cons rfl (OpV.t (v_loadI ty9 rfl) ?_)
    refine op_cons rfl (t_buildSlice (l := ([a_n_.name] : (List Str))) el22 (.cons rfl (fun _ _ h => h) .nil) rfl rfl ?_)
    refine cal_inv h fun y3 hy3 h => ?_
    refine op_cons rfl (t_call (refs_with_w hy3) hT (.same rfl (.cons rfl appv_isv .nil)) (.cons (.there .here) .nil) (fun R H' hR => ?_))
    obtain ⟨t4, rfl, rfl⟩ := hR
    refine op_cons rfl (t_storeC (y' := ((TList.mk t4 y3) : (TList Str))) ty22 rfl rfl isvT2 (.there .here) rfl ?_)
    refine rl_nil ?_
    refine fin_post .nil (.cons .here (.cons .here .nil)) ?_
    obtain rfl := Option.some.inj h
    exact ⟨t4, rfl, rfl⟩
  · skip
    refine w_skip ?_
    refine fin_post .nil (.cons .here (.cons .here .nil)) ?_
    obtain rfl := Option.some.inj h
    exact ⟨t_a_a11, rfl, rfl⟩


def refs_walk_C (f' : GMod → Int → (List Bool) → (List Str) → Option ((List Bool) × (List Str))) : Prop :=
  ∀ {a_m : GMod} {a_node : Int} {a_seen : (List Bool)} {a_do__0 : (List Str)} {v_a_seen : Vt} {b_a_do__0 : Nat} {t_a_do__01 : Tok} {r : (List Bool) × (List Str)}, f' a_m a_node a_seen a_do__0 = some r → Ctr Tryd.prog 48 [isv (a_m), isv (a_node), vecv v_a_seen (a_seen.length), clov 49 [ptrv b_a_do__0 (Fld.id (TList Str))]] [vecE v_a_seen (a_seen : List Bool), boxE b_a_do__0 ((TList.mk t_a_do__01 a_do__0) : (TList Str)), tokE t_a_do__01] (fun R H => ∃ u1 : Tok, R = oneOf [] ∧ H = [vecE v_a_seen (r.1), boxE b_a_do__0 ((TList.mk u1 r.2)), tokE u1])
theorem refs_walk_w0 {refs_walk' : GMod → Int → (List Bool) → (List Str) → Option ((List Bool) × (List Str))} (h_refs_walk : refs_walk_C refs_walk') : ∀ {a_m : GMod} {a_node : Int} {a_seen : (List Bool)} {a_do__0 : (List Str)} {v_a_seen : Vt} {b_a_do__0 : Nat} {t_a_do__01 : Tok} {r : (List Bool) × (List Str)}, refs_walk_F refs_walk' a_m a_node a_seen a_do__0 = some r → Ctr Tryd.prog 48 [isv (a_m), isv (a_node), vecv v_a_seen (a_seen.length), clov 49 [ptrv b_a_do__0 (Fld.id (TList Str))]] [vecE v_a_seen (a_seen : List Bool), boxE b_a_do__0 ((TList.mk t_a_do__01 a_do__0) : (TList Str)), tokE t_a_do__01] (fun R H => ∃ u1 : Tok, R = oneOf [] ∧ H = [vecE v_a_seen (r.1), boxE b_a_do__0 ((TList.mk u1 r.2)), tokE u1]) := by
  intro a_m a_node a_seen a_do__0 v_a_seen b_a_do__0 t_a_do__01 r h
  unfold refs_walk_F at h
  refine spec_intro Tryd.func48 rfl (by decide +kernel) (by rfl) fun w0 S0 hT => ?_
  refine w_seq ?_
  refine w_region ?_
  refine op_cons rfl (t_boxIC (y := a_m) rfl (fun _ _ h => h) ?_)
  refine rl_nil ?_
  refine fin_nxt ?_
  refine w_seq ?_
  refine w_seq ?_
  refine w_region ?_
  refine op_cons rfl (OpV.t (v_move rfl) ?_)
  refine op_cons rfl (OpV.t (v_lss rfl rfl) ?_)
  refine op_cons rfl (OpV.t (v_move rfl) ?_)
  refine rl_j (ι := Bool) (γ := Unit) (fun q2 g2 => [(19, isv (q2))]) (fun q2 g2 => []) .nil h 6 rfl (fun q2 g2 h => ?_) (fun J3 h hJ3 => ?_)
  · skip
    refine op_cons rfl (OpV.t (v_move rfl) ?_)
    refine rl_j (ι := Bool) (γ := Unit) (fun q5 g5 => [(25, isv (q5))]) (fun q5 g5 => []) .nil h 5 rfl (fun q5 g5 h => ?_) (fun J6 h hJ6 => ?_)
    · skip
      refine rl_nil ?_
      refine fin_nxt ?_
      refine w_condM h rfl (fun _ h => ?_) (fun _ h => ?_)
      · skip
        refine w_ret ?_
        refine ret_nxt ?_
        refine ret_post .nil (.cons .here (.cons .here (.cons .here .nil))) ?_
        obtain rfl := Option.some.inj h
        exact ⟨t_a_do__01, rfl, rfl⟩
      · skip
        refine w_skip ?_
        refine fin_nxt ?_
        refine w_seq ?_
        refine w_region ?_
        refine op_cons rfl (OpV.t (v_move rfl) ?_)
        refine op_cons rfl (OpV.t (v_move rfl) ?_)
        refine asd_inv h fun q10 h => ?_
        refine op_cons rfl (OpV.t (v_vidx (α := Bool) sl88 rfl rfl q10.1 q10.2) ?_)
        refine cal_inv h fun y11 hy11 h => ?_
        refine op_cons rfl (t_vstore ty4 rfl rfl .here hy11 ?_)
        refine rl_nil ?_
        refine fin_nxt ?_
        refine w_seq ?_
        refine w_region ?_
        refine op_cons rfl (OpV.t (v_fi rfl GMod.f4 fd26_4 rfl (z := a_m.nodes)) ?_)
        refine op_cons rfl (OpV.t (v_loadI ty24 rfl) ?_)
        refine op_cons rfl (OpV.t (v_move rfl) ?_)
        refine cal_inv h fun y12 hy12 h => ?_
        refine op_cons rfl (OpV.t (v_ix (l := a_m.nodes) rfl (fun _ _ h => h) rfl sl24 hy12) ?_)
        refine op_cons rfl (OpV.t (v_loadI ty83 rfl) ?_)
        refine op_cons rfl (t_alloc _ ze83 fun b13 => ?_)
        refine op_cons rfl (t_storeC (y' := (y12 : GNode)) ty83 rfl rfl (fun _ _ h => h) .here rfl ?_)
        refine rl_upd (upd_imm 8 .here rfl) ?_
        refine rl_nil ?_
        refine fin_nxt ?_
        refine w_seq ?_
        refine w_region ?_
        refine op_cons rfl (OpV.t (v_move rfl) ?_)
        refine op_cons rfl (OpV.t (v_loadI ty83 rfl) ?_)
        refine cal_inv h fun y14 hy14 h => ?_
        refine op_cons rfl (t_callC rfl (.same rfl .nil) (refs_refers_c1_w hy14) hT (.cons (.there .here) (.cons (.there .here) .nil)) (fun R H' hR => ?_))
        obtain ⟨t15, rfl, rfl⟩ := hR
        refine rl_nil ?_
        refine fin_nxt ?_
        refine w_seq ?_
        refine w_seq ?_
        refine w_region ?_
        refine op_cons rfl (OpV.t (v_fi rfl GNode.f0 fd83_0 rfl (z := y12.kind)) ?_)
        refine op_cons rfl (OpV.t (v_loadI ty3 rfl) ?_)
        refine op_cons rfl (OpV.t (v_eql rfl rfl) ?_)
        refine rl_nil ?_
        refine fin_nxt ?_
        refine w_condM h rfl (fun _ h => ?_) (fun _ h => ?_)
        · skip
          refine w_ret ?_
          refine ret_nxt ?_
          refine ret_post .nil (.cons (.there (.there .here)) (.cons .here (.cons .here .nil))) ?_
          obtain rfl := Option.some.inj h
          exact ⟨t15, rfl, rfl⟩
        · skip
          refine w_skip ?_
          refine fin_nxt ?_
          refine w_seq ?_
          refine w_seq ?_
          refine w_region ?_
          refine op_cons rfl (OpV.t (v_fi rfl GNode.f5 fd83_5 rfl (z := y12.fields)) ?_)
          refine op_cons rfl (OpV.t (v_loadI ty81 rfl) ?_)
          refine op_cons rfl (OpV.t (v_ln (l := y12.fields) rfl (fun _ _ h => h) sl81) ?_)
          refine op_cons rfl (OpV.t (v_move rfl) ?_)
          refine rl_nil ?_
          refine fin_nxt ?_
          refine w_block ?_
          refine w_lp (ι := (List Bool) × Int × (List Str)) (γ := Tok) (fun q16 g16 => [(26, anyv), (43, isv (q16.2.1)), (2, vecv v_a_seen (q16.1.length))]) (fun q16 g16 => [vecE v_a_seen (q16.1 : List Bool), boxE b_a_do__0 ((TList.mk g16 q16.2.2) : (TList Str)), tokE g16]) h (t15) (mod_cons (j := 26) rfl (fun _ _ _ => trivial) (mod_cons (j := 43) rfl (fun _ _ h => h) (mod_cons (j := 2) rfl (vecvE (by first | rfl | simp)) mod_nil))) (.cons (.there (.there .here)) (.cons .here (.cons .here .nil))) (fun L17 q16 g16 Q36 h hL17 eL17 rL17 => ?_)
          refine w_seq ?_
          refine w_region ?_
          refine op_cons rfl (OpV.t (v_lss rfl rfl) ?_)
          refine rl_nil ?_
          refine fin_nxt ?_
          refine w_seq ?_
          refine w_condM h rfl (fun _ h => ?_) (fun _ h => ?_)
          · skip
            refine w_skip ?_
            refine fin_nxt ?_
            refine w_seq ?_
            refine w_block ?_
            refine w_seq ?_
            refine w_region ?_
            refine cal_inv h fun y27 hy27 h => ?_
            refine op_cons rfl (OpV.t (v_ix (l := y12.fields) rfl (fun _ _ h => h) rfl sl81 hy27) ?_)
            refine op_cons rfl (OpV.t (v_loadI ty97 rfl) ?_)
            refine op_cons rfl (t_alloc _ ze97 fun b28 => ?_)
            refine op_cons rfl (t_storeC (y' := (y27 : GFld)) ty97 rfl rfl (fun _ _ h => h) .here rfl ?_)
            refine rl_upd (upd_imm 10 .here rfl) ?_
            refine rl_nil ?_
            refine fin_nxt ?_
            refine w_region ?_
            refine op_cons rfl (OpV.t (v_loadI ty26 rfl) ?_)
            refine op_cons rfl (OpV.t (v_fi rfl GFld.f1 fd97_1 rfl (z := y27.ty)) ?_)
            refine op_cons rfl (OpV.t (v_loadI ty3 rfl) ?_)
            refine op_cons rfl (OpV.t (v_move rfl) ?_)
            refine op_cons rfl (OpV.t (v_move rfl) ?_)
            refine cal_inv h fun y29 hy29 h => ?_
            refine op_cons rfl (t_call (h_refs_walk hy29) hT (.same rfl (.same rfl (.cons rfl (fun _ _ h => vecvE (by first | rfl | simp) _ _ h) (.same rfl .nil)))) (.cons .here (.cons .here (.cons .here .nil))) (fun R H' hR => ?_))
            obtain ⟨t30, rfl, rfl⟩ := hR
            refine asd_inv h fun q31 h => ?_
            refine rl_upd (upd_slot 2 rfl (vecvE q31.symm)) ?_
            refine rl_upd (upd_slot 50 rfl (vecvE q31.symm)) ?_
            refine rl_nil ?_
            refine fin_block ?_
            refine fin_nxt ?_
            refine w_region ?_
            refine ck_inv h fun q32 h => ?_
            refine op_cons rfl (OpV.t (v_add rfl rfl q32) ?_)
            refine op_cons rfl (OpV.t (v_move rfl) ?_)
            refine rl_nil ?_
            exact hL17 _ (t30) h _ (join_imp 18 rfl rfl (mod_cons (j := 26) rfl (fun _ _ _ => trivial) (mod_cons (j := 43) rfl (fun _ _ h => h) (mod_cons (j := 2) rfl (vecvE (by first | rfl | simp)) mod_nil))) (.cons .here (.cons .here (.cons .here .nil))))
          · skip
            refine w_exit ?_
            refine exi_nxt ?_
            refine eL17 _ _ ?_
            refine exi_block ?_
            refine fin_nxt ?_
            refine w_seq ?_
            refine w_region ?_
            refine op_cons rfl (OpV.t (v_fi rfl GNode.f0 fd83_0 rfl (z := y12.kind)) ?_)
            refine op_cons rfl (OpV.t (v_loadI ty3 rfl) ?_)
            refine op_cons rfl (OpV.t (v_eql rfl rfl) ?_)
            refine rl_nil ?_
            refine fin_nxt ?_
            refine w_condM h rfl (fun _ h => ?_) (fun _ h => ?_)
            · skip
              refine w_region ?_
              refine op_cons rfl (OpV.t (v_loadI ty26 rfl) ?_)
              refine op_cons rfl (OpV.t (v_fi rfl GNode.f8 fd83_8 rfl (z := y12.of)) ?_)
              refine op_cons rfl (OpV.t (v_loadI ty3 rfl) ?_)
              refine op_cons rfl (OpV.t (v_move rfl) ?_)
              refine op_cons rfl (OpV.t (v_move rfl) ?_)
              refine cal_inv h fun y33 hy33 h => ?_
              refine op_cons rfl (t_call (h_refs_walk hy33) hT (.same rfl (.same rfl (.cons rfl (fun _ _ h => vecvE (by first | rfl | simp) _ _ h) (.same rfl .nil)))) (.cons .here (.cons .here (.cons .here .nil))) (fun R H' hR => ?_))
              obtain ⟨t34, rfl, rfl⟩ := hR
              refine asd_inv h fun q35 h => ?_
              refine rl_upd (upd_slot 2 rfl (vecvE q35.symm)) ?_
              refine rl_upd (upd_slot 60 rfl (vecvE q35.symm)) ?_
              refine rl_nil ?_
              refine fin_post .nil (.cons .here (.cons .here (.cons .here .nil))) ?_
              obtain rfl := Option.some.inj h
              exact ⟨t34, rfl, rfl⟩
            · skip
              refine w_skip ?_
              refine fin_post .nil (.cons .here (.cons .here (.cons .here .nil))) ?_
              obtain rfl := Option.some.inj h
              exact ⟨g16, rfl, rfl⟩
    · skip
      refine rl_condM (j := 20) h rfl (fun g7 h => ?_) (fun g7 h => ?_)
      · skip
        refine op_pass rfl (dj := 20) rfl g7 ?_
        refine op_pass rfl (dj := 20) rfl g7 ?_
        refine op_pass rfl (dj := 20) rfl g7 ?_
        refine op_pass rfl (dj := 20) rfl g7 ?_
        refine op_cons rfl (OpV.t (v_pick_t rfl g7 rfl) ?_)
        exact hJ6 _ () h _ (join_imp 5 rfl rfl (mod_cons (j := 25) rfl (fun _ _ h => h) mod_nil) (.cons .here (.cons .here (.cons .here .nil))))
      · skip
        refine op_take rfl rfl (dj := 20) rfl g7 (OpV.t (v_move rfl) ?_)
        refine op_take rfl rfl (dj := 20) rfl g7 (OpV.t (v_move rfl) ?_)
        refine asd_inv h fun q8 h => ?_
        refine op_take rfl rfl (dj := 20) rfl g7 (OpV.t (v_vidx (α := Bool) sl88 rfl rfl q8.1 q8.2) ?_)
        refine cal_inv h fun y9 hy9 h => ?_
        refine op_take rfl rfl (dj := 20) rfl g7 (t_vload ty4 rfl .here hy9 ?_)
        refine op_cons rfl (OpV.t (v_pick_f rfl g7 rfl) ?_)
        exact hJ6 _ () h _ (join_imp 5 rfl rfl (mod_cons (j := 25) rfl (fun _ _ h => h) mod_nil) (.cons .here (.cons .here (.cons .here .nil))))
  · skip
    refine rl_condM (j := 13) h rfl (fun g4 h => ?_) (fun g4 h => ?_)
    · skip
      refine op_pass rfl (dj := 13) rfl g4 ?_
      refine op_pass rfl (dj := 13) rfl g4 ?_
      refine op_pass rfl (dj := 13) rfl g4 ?_
      refine op_pass rfl (dj := 13) rfl g4 ?_
      refine op_pass rfl (dj := 13) rfl g4 ?_
      refine op_cons rfl (OpV.t (v_pick_t rfl g4 rfl) ?_)
      exact hJ3 _ () h _ (join_imp 6 rfl rfl (mod_cons (j := 19) rfl (fun _ _ h => h) mod_nil) (.cons .here (.cons .here (.cons .here .nil))))
    · skip
      refine op_take rfl rfl (dj := 13) rfl g4 (OpV.t (v_move rfl) ?_)
      refine op_take rfl rfl (dj := 13) rfl g4 (OpV.t (v_fi rfl GMod.f4 fd26_4 rfl (z := a_m.nodes)) ?_)
      refine op_take rfl rfl (dj := 13) rfl g4 (OpV.t (v_loadI ty24 rfl) ?_)
      refine op_take rfl rfl (dj := 13) rfl g4 (OpV.t (v_ln (l := a_m.nodes) rfl (fun _ _ h => h) sl24) ?_)
      refine op_take rfl rfl (dj := 13) rfl g4 (OpV.t (v_geq rfl rfl) ?_)
      refine op_cons rfl (OpV.t (v_pick_f rfl g4 rfl) ?_)
      exact hJ3 _ () h _ (join_imp 6 rfl rfl (mod_cons (j := 19) rfl (fun _ _ h => h) mod_nil) (.cons .here (.cons .here (.cons .here .nil))))

theorem refs_walk_grp_w : ∀ n, refs_walk_C (refs_walk n)
  | 0 => fun h => (by cases h)
  | n + 1 => refs_walk_w0 (refs_walk_grp_w n)
theorem refs_walk_w (n : Nat) : refs_walk_C (refs_walk n) := (refs_walk_grp_w n)

theorem refs_refers_w : ∀ {a_m : GMod} {a_node : Int} {r : (List Str)}, refs_refers a_m a_node = some r → Ctr Tryd.prog 37 [isv (a_m), isv (a_node)] [] (fun R H => R = oneOf [isv (r)] ∧ H = []) := by
  intro a_m a_node r h
  unfold refs_refers at h
  refine spec_intro Tryd.func37 rfl (by decide +kernel) (by rfl) fun w0 S0 hT => ?_
  refine w_seq ?_
  refine w_region ?_
  refine op_cons rfl (t_boxIC (y := a_m) rfl (fun _ _ h => h) ?_)
  refine op_cons rfl (OpV.t (v_assign rfl) ?_)
  refine rl_nil ?_
  refine fin_nxt ?_
  refine w_seq ?_
  refine w_region ?_
  refine op_cons rfl (t_alloc _ zt22_2 fun b1 => ?_)
  refine rl_upd (upd_tok) ?_
  refine rl_nil ?_
  refine fin_nxt ?_
  refine w_seq ?_
  refine w_regionD (.v 0 (.v 1 (.v 2 (.v 3 (.v 4 (.v 6 (.t 5 (.t 7 .nil)))))))) moOrd (by kernel_rfl) ?_
  refine rd_v rfl (v_loadI ty26 rfl) ?_
  refine rd_v rfl (v_move rfl) ?_
  refine rd_v rfl (v_fi rfl GMod.f4 fd26_4 rfl (z := a_m.nodes)) ?_
  refine rd_v rfl (v_loadI ty24 rfl) ?_
  refine rd_v rfl (v_ln (l := a_m.nodes) rfl (fun _ _ h => h) sl24) ?_
  refine rd_v rfl (v_makeFunc (.same rfl .nil)) ?_
  refine asd_inv h fun q3 h => ?_
  refine rd_t rfl rfl (t_makeVec el88 ze4 Tryd.underlying88 rfl rfl q3.1 rfl q3.2 fun v4 => ?_)
  refine cal_inv h fun y5 hy5 h => ?_
  refine rd_t rfl rfl (t_call (refs_walk_w fuel hy5) hT (.same rfl (.same rfl (.cons rfl (fun _ _ h => vecvE (by first | rfl | simp) _ _ h) (.same rfl .nil)))) (.cons .here (.cons (.there .here) (.cons .here .nil))) (fun R H' hR => ?_))
  obtain ⟨t6, rfl, rfl⟩ := hR
  refine asd_inv h fun q7 h => ?_
  refine rd_upd (upd_slot 11 rfl (vecvE q7.symm)) ?_
  refine rd_nil ?_
  refine fin_nxt ?_
  refine w_seq ?_
  refine w_region ?_
  refine op_cons rfl (t_loadC (R := appv t6 (y5.2)) ty22 rfl (.there .here) isvT1 ?_)
  refine op_cons rfl (OpV.t (v_assign rfl) ?_)
  refine rl_nil ?_
  refine fin_nxt ?_
  refine w_ret ?_
  refine ret_post (.as rfl appv_isv .nil) .nil ?_
  obtain rfl := Option.some.inj h
  exact ⟨rfl, rfl⟩


theorem refs_Find_w : ∀ {a_m : GMod} {a_name : Str} {r : Int}, refs_Find a_m a_name = some r → Ctr Tryd.prog 12 [isv (a_m), isv (a_name)] [] (fun R H => R = oneOf [isv (r)] ∧ H = []) := by
  intro a_m a_name r h
  unfold refs_Find at h
  refine spec_intro Tryd.func12 rfl (by decide +kernel) (by rfl) fun w0 S0 hT => ?_
  refine w_seq ?_
  refine w_region ?_
  refine op_cons rfl (t_boxIC (y := a_m) rfl (fun _ _ h => h) ?_)
  refine op_cons rfl (OpV.t (v_assign rfl) ?_)
  refine rl_nil ?_
  refine fin_nxt ?_
  refine w_seq ?_
  refine w_region ?_
  refine op_cons rfl (OpV.t (v_fi rfl GMod.f2 fd26_2 rfl (z := a_m.names)) ?_)
  refine op_cons rfl (OpV.t (v_loadI ty22 rfl) ?_)
  refine op_cons rfl (OpV.t (v_move rfl) ?_)
  refine cal_inv h fun y1 hy1 h => ?_
  refine op_cons rfl (t_call (slices_Index_Lstring_string_w hy1) hT (.same rfl (.same rfl .nil)) .nil (fun R H' hR => ?_))
  obtain ⟨rfl, rfl⟩ := hR
  refine op_cons rfl (OpV.t (v_assign rfl) ?_)
  refine rl_nil ?_
  refine fin_nxt ?_
  refine w_ret ?_
  refine ret_post (.tmp rfl .nil) .nil ?_
  obtain rfl := Option.some.inj h
  exact ⟨rfl, rfl⟩


theorem refs_Uses_w : ∀ {a_m : GMod} {a_node : Int} {r : (List Int)}, refs_Uses a_m a_node = some r → Ctr Tryd.prog 15 [isv (a_m), isv (a_node)] [] (fun R H => R = oneOf [isv (r)] ∧ H = []) := by
  intro a_m a_node r h
  unfold refs_Uses at h
  refine spec_intro Tryd.func15 rfl (by decide +kernel) (by rfl) fun w0 S0 hT => ?_
  refine w_seq ?_
  refine w_region ?_
  refine op_cons rfl (t_boxIC (y := a_m) rfl (fun _ _ h => h) ?_)
  refine op_cons rfl (OpV.t (v_assign rfl) ?_)
  refine rl_nil ?_
  refine fin_nxt ?_
  refine w_seq ?_
  refine w_region ?_
  refine op_cons rfl (OpV.t (v_assign rfl) ?_)
  refine rl_nil ?_
  refine fin_nxt ?_
  refine w_seq ?_
  refine w_seq ?_
  refine w_region ?_
  refine op_cons rfl (OpV.t (v_loadI ty26 rfl) ?_)
  refine op_cons rfl (OpV.t (v_move rfl) ?_)
  refine cal_inv h fun y1 hy1 h => ?_
  refine op_cons rfl (t_call (refs_refers_w hy1) hT (.same rfl (.same rfl .nil)) .nil (fun R H' hR => ?_))
  obtain ⟨rfl, rfl⟩ := hR
  refine op_cons rfl (OpV.t (v_ln (l := y1) rfl (fun _ _ h => h) sl22) ?_)
  refine op_cons rfl (OpV.t (v_move rfl) ?_)
  refine rl_nil ?_
  refine fin_nxt ?_
  refine w_block ?_
  refine w_upd (upd_tok) ?_
  refine w_lp (ι := (List Int) × Int) (γ := Tok) (fun q2 g2 => [(5, appv g2 (q2.1)), (13, isv (q2.2))]) (fun q2 g2 => [tokE g2]) h (none) (mod_cons (j := 5) rfl nilv_appv (mod_cons (j := 13) rfl (fun _ _ h => h) mod_nil)) (.cons .here .nil) (fun L3 q2 g2 Q22 h hL3 eL3 rL3 => ?_)
  refine w_seq ?_
  refine w_region ?_
  refine op_cons rfl (OpV.t (v_lss rfl rfl) ?_)
  refine rl_nil ?_
  refine fin_nxt ?_
  refine w_seq ?_
  refine w_condM h rfl (fun _ h => ?_) (fun _ h => ?_)
  · skip
    refine w_skip ?_
    refine fin_nxt ?_
    refine w_seq ?_
    refine w_J (ι := (List Int)) (γ := Tok) (fun q13 g13 => [(5, appv g13 (q13))]) (fun q13 g13 => [tokE g13]) (.cons .here .nil) h (fun q13 g13 h => ?_) (fun J14 h hJ14 => ?_)
    · skip
      refine w_region ?_
      refine ck_inv h fun q20 h => ?_
      refine op_cons rfl (OpV.t (v_add rfl rfl q20) ?_)
      refine op_cons rfl (OpV.t (v_move rfl) ?_)
      refine rl_nil ?_
      exact hL3 _ (g13) h _ (join_imp 6 rfl rfl (mod_cons (j := 5) rfl (fun _ _ h => h) (mod_cons (j := 13) rfl (fun _ _ h => h) mod_nil)) (.cons .here .nil))
    · skip
      refine w_block ?_
      refine w_seq ?_
      refine w_region ?_
      refine cal_inv h fun y15 hy15 h => ?_
      refine op_cons rfl (OpV.t (v_ix (l := y1) rfl (fun _ _ h => h) rfl sl22 hy15) ?_)
      refine op_cons rfl (OpV.t (v_loadI ty9 rfl) ?_)
      refine op_cons rfl (OpV.t (v_assign rfl) ?_)
      refine rl_nil ?_
      refine fin_nxt ?_
      refine w_seq ?_
      refine w_region ?_
      refine op_cons rfl (OpV.t (v_loadI ty26 rfl) ?_)
      refine op_cons rfl (OpV.t (v_move rfl) ?_)
      refine cal_inv h fun y16 hy16 h => ?_
      refine op_cons rfl (t_call (refs_Find_w hy16) hT (.same rfl (.same rfl .nil)) .nil (fun R H' hR => ?_))
      obtain ⟨rfl, rfl⟩ := hR
      refine op_cons rfl (OpV.t (v_assign rfl) ?_)
      refine rl_nil ?_
      refine fin_nxt ?_
      refine w_seq ?_
      refine w_region ?_
      refine op_cons rfl (OpV.t (v_move rfl) ?_)
      refine op_cons rfl (OpV.t (v_geq rfl rfl) ?_)
      refine rl_nil ?_
      refine fin_nxt ?_
      refine w_condM h rfl (fun _ h => ?_) (fun _ h => ?_)
      · skip
        refine w_region ?_
        refine op_cons rfl (OpV.t (v_move rfl) ?_)
        refine op_cons rfl (OpV.t (v_move rfl) ?_)
        refine op_cons rfl (t_buildSlice (l := ([y16] : (List Int))) el23 (.cons rfl (fun _ _ h => h) .nil) rfl rfl ?_)
        refine asr_inv h fun q19 h => ?_
        refine op_cons rfl (t_appC (l := q2.1) (m := ([y16] : (List Int))) ap23_23 rfl (fun _ _ h => h) rfl appv_isv .here q19 fun t18 => ?_)
        refine op_cons rfl (OpV.t (v_assign rfl) ?_)
        refine rl_nil ?_
        refine fin_block ?_
        exact hJ14 _ (t18) h _ (join_imp 14 rfl rfl (mod_cons (j := 5) rfl (fun _ _ h => h) mod_nil) (.cons .here .nil))
      · skip
        refine w_skip ?_
        refine fin_block ?_
        exact hJ14 _ (g2) h _ (join_imp 9 rfl rfl (mod_cons (j := 5) rfl (fun _ _ h => h) mod_nil) (.cons .here .nil))
  · skip
    refine w_exit ?_
    refine exi_nxt ?_
    refine eL3 _ _ ?_
    refine exi_block ?_
    refine fin_nxt ?_
    refine w_seq ?_
    refine w_region ?_
    refine op_cons rfl (OpV.t (v_move rfl) ?_)
    refine op_cons rfl (OpV.t (v_assign rfl) ?_)
    refine rl_nil ?_
    refine fin_nxt ?_
    refine w_ret ?_
    refine ret_post (.as rfl appv_isv .nil) .nil ?_
    obtain rfl := Option.some.inj h
    exact ⟨rfl, rfl⟩


theorem refs_lost_c1_w : ∀ {a_s : Str} {a_a1 : GMod} {b_a_a1 : Nat} {r : Bool × GMod}, refs_lost_c1 a_s a_a1 = some r → Ctr Tryd.prog 66 [isv (a_s), ptrv b_a_a1 (Fld.id GMod)] [boxE b_a_a1 (a_a1 : GMod)] (fun R H => R = oneOf [isv (r.1)] ∧ H = [boxE b_a_a1 (r.2)]) := by
  intro a_s a_a1 b_a_a1 r h
  unfold refs_lost_c1 at h
  refine spec_intro Tryd.func66 rfl (by decide +kernel) (by rfl) fun w0 S0 hT => ?_
  refine w_seq ?_
  refine w_region ?_
  refine op_cons rfl (OpV.t (v_assign rfl) ?_)
  refine rl_nil ?_
  refine fin_nxt ?_
  refine w_seq ?_
  refine w_region ?_
  refine op_cons rfl (t_loadC (R := isv (a_a1)) ty26 rfl .here (fun _ _ h => h) ?_)
  refine op_cons rfl (OpV.t (v_move rfl) ?_)
  refine cal_inv h fun y1 hy1 h => ?_
  refine op_cons rfl (t_call (refs_Find_w hy1) hT (.same rfl (.same rfl .nil)) .nil (fun R H' hR => ?_))
  obtain ⟨rfl, rfl⟩ := hR
  refine op_cons rfl (OpV.t (v_lss rfl rfl) ?_)
  refine op_cons rfl (OpV.t (v_assign rfl) ?_)
  refine rl_nil ?_
  refine fin_nxt ?_
  refine w_ret ?_
  refine ret_post (.tmp rfl .nil) (.cons .here .nil) ?_
  obtain rfl := Option.some.inj h
  exact ⟨rfl, rfl⟩


theorem slices_IndexFunc_Lstring_string_w : ∀ {a_s : (List Str)} {a_f_0 : GMod} {b_a_f_0 : Nat} {r : Int × GMod}, slices_IndexFunc_Lstring_string a_s a_f_0 = some r → Ctr Tryd.prog 71 [isv (a_s), clov 66 [ptrv b_a_f_0 (Fld.id GMod)]] [boxE b_a_f_0 (a_f_0 : GMod)] (fun R H => R = oneOf [isv (r.1)] ∧ H = [boxE b_a_f_0 (r.2)]) := by
  intro a_s a_f_0 b_a_f_0 r h
  unfold slices_IndexFunc_Lstring_string at h
  refine spec_intro Tryd.func71 rfl (by decide +kernel) (by rfl) fun w0 S0 hT => ?_
  refine w_seq ?_
  refine w_region ?_
  refine op_cons rfl (OpV.t (v_assign rfl) ?_)
  refine rl_nil ?_
  refine fin_nxt ?_
  refine w_seq ?_
  refine w_seq ?_
  refine w_region ?_
  refine op_cons rfl (OpV.t (v_move rfl) ?_)
  refine op_cons rfl (OpV.t (v_ln (l := a_s) rfl (fun _ _ h => h) sl22) ?_)
  refine op_cons rfl (OpV.t (v_move rfl) ?_)
  refine rl_nil ?_
  refine fin_nxt ?_
  refine w_block ?_
  refine w_lp (ι := Int × GMod) (γ := Unit) (fun q1 g1 => [(8, isv (q1.1))]) (fun q1 g1 => [boxE b_a_f_0 (q1.2 : GMod)]) h () (mod_cons (j := 8) rfl (fun _ _ h => h) mod_nil) (.cons .here .nil) (fun L2 q1 g1 Q9 h hL2 eL2 rL2 => ?_)
  refine w_seq ?_
  refine w_region ?_
  refine op_cons rfl (OpV.t (v_lss rfl rfl) ?_)
  refine rl_nil ?_
  refine fin_nxt ?_
  refine w_seq ?_
  refine w_condM h rfl (fun _ h => ?_) (fun _ h => ?_)
  · skip
    refine w_skip ?_
    refine fin_nxt ?_
    refine w_seq ?_
    refine w_block ?_
    refine w_seq ?_
    refine w_region ?_
    refine op_cons rfl (OpV.t (v_move rfl) ?_)
    refine op_cons rfl (OpV.t (v_assign rfl) ?_)
    refine rl_nil ?_
    refine fin_nxt ?_
    refine w_seq ?_
    refine w_region ?_
    refine op_cons rfl (OpV.t (v_move rfl) ?_)
    refine op_cons rfl (OpV.t (v_move rfl) ?_)
    refine op_cons rfl (OpV.t (v_move rfl) ?_)
    refine cal_inv h fun y6 hy6 h => ?_
    refine op_cons rfl (OpV.t (v_ix (l := a_s) rfl (fun _ _ h => h) rfl sl22 hy6) ?_)
    refine op_cons rfl (OpV.t (v_loadI ty9 rfl) ?_)
    refine cal_inv h fun y7 hy7 h => ?_
    refine op_cons rfl (t_callC rfl (.same rfl .nil) (refs_lost_c1_w hy7) hT (.cons .here .nil) (fun R H' hR => ?_))
    obtain ⟨rfl, rfl⟩ := hR
    refine rl_nil ?_
    refine fin_nxt ?_
    refine w_condM h rfl (fun _ h => ?_) (fun _ h => ?_)
    · skip
      refine w_seq ?_
      refine w_region ?_
      refine op_cons rfl (OpV.t (v_move rfl) ?_)
      refine op_cons rfl (OpV.t (v_assign rfl) ?_)
      refine rl_nil ?_
      refine fin_nxt ?_
      refine w_ret ?_
      refine ret_block ?_
      refine ret_nxt ?_
      refine rL2 _ ?_
      refine ret_block ?_
      refine ret_nxt ?_
      refine ret_post (.tmp rfl .nil) (.cons .here .nil) ?_
      obtain rfl := Option.some.inj h
      exact ⟨rfl, rfl⟩
    · skip
      refine w_skip ?_
      refine fin_block ?_
      refine fin_nxt ?_
      refine w_region ?_
      refine ck_inv h fun q8 h => ?_
      refine op_cons rfl (OpV.t (v_add rfl rfl q8) ?_)
      refine op_cons rfl (OpV.t (v_move rfl) ?_)
      refine rl_nil ?_
      exact hL2 _ () h _ (join_imp 12 rfl rfl (mod_cons (j := 8) rfl (fun _ _ h => h) mod_nil) (.cons .here .nil))
  · skip
    refine w_exit ?_
    refine exi_nxt ?_
    refine eL2 _ _ ?_
    refine exi_block ?_
    refine fin_nxt ?_
    refine w_seq ?_
    refine w_region ?_
    refine op_cons rfl (OpV.t (v_assign rfl) ?_)
    refine rl_nil ?_
    refine fin_nxt ?_
    refine w_ret ?_
    refine ret_post (.tmp rfl .nil) (.cons .here .nil) ?_
    obtain rfl := Option.some.inj h
    exact ⟨rfl, rfl⟩


theorem slices_ContainsFunc_Lstring_string_w : ∀ {a_s : (List Str)} {a_f_0 : GMod} {b_a_f_0 : Nat} {r : Bool × GMod}, slices_ContainsFunc_Lstring_string a_s a_f_0 = some r → Ctr Tryd.prog 65 [isv (a_s), clov 66 [ptrv b_a_f_0 (Fld.id GMod)]] [boxE b_a_f_0 (a_f_0 : GMod)] (fun R H => R = oneOf [isv (r.1)] ∧ H = [boxE b_a_f_0 (r.2)]) := by
  intro a_s a_f_0 b_a_f_0 r h
  unfold slices_ContainsFunc_Lstring_string at h
  refine spec_intro Tryd.func65 rfl (by decide +kernel) (by rfl) fun w0 S0 hT => ?_
  refine w_seq ?_
  refine w_region ?_
  refine op_cons rfl (OpV.t (v_assign rfl) ?_)
  refine rl_nil ?_
  refine fin_nxt ?_
  refine w_seq ?_
  refine w_region ?_
  refine op_cons rfl (OpV.t (v_move rfl) ?_)
  refine op_cons rfl (OpV.t (v_move rfl) ?_)
  refine cal_inv h fun y1 hy1 h => ?_
  refine op_cons rfl (t_call (slices_IndexFunc_Lstring_string_w hy1) hT (.same rfl (.same rfl .nil)) (.cons .here .nil) (fun R H' hR => ?_))
  obtain ⟨rfl, rfl⟩ := hR
  refine op_cons rfl (OpV.t (v_geq rfl rfl) ?_)
  refine op_cons rfl (OpV.t (v_assign rfl) ?_)
  refine rl_nil ?_
  refine fin_nxt ?_
  refine w_ret ?_
  refine ret_post (.tmp rfl .nil) (.cons .here .nil) ?_
  obtain rfl := Option.some.inj h
  exact ⟨rfl, rfl⟩


theorem refs_lost_w : ∀ {a_m : GMod} {a_node : Int} {r : Bool}, refs_lost a_m a_node = some r → Ctr Tryd.prog 44 [isv (a_m), isv (a_node)] [] (fun R H => R = oneOf [isv (r)] ∧ H = []) := by
  intro a_m a_node r h
  unfold refs_lost at h
  refine spec_intro Tryd.func44 rfl (by decide +kernel) (by rfl) fun w0 S0 hT => ?_
  refine w_seq ?_
  refine w_region ?_
  refine op_cons rfl (t_boxC (y := a_m) rfl (fun _ _ h => h) fun b1 => ?_)
  refine op_cons rfl (OpV.t (v_assign rfl) ?_)
  refine rl_nil ?_
  refine fin_nxt ?_
  refine w_seq ?_
  refine w_region ?_
  refine op_cons rfl (t_loadC (R := isv (a_m)) ty26 rfl .here (fun _ _ h => h) ?_)
  refine op_cons rfl (OpV.t (v_move rfl) ?_)
  refine cal_inv h fun y2 hy2 h => ?_
  refine op_cons rfl (t_call (refs_refers_w hy2) hT (.same rfl (.same rfl .nil)) .nil (fun R H' hR => ?_))
  obtain ⟨rfl, rfl⟩ := hR
  refine op_cons rfl (OpV.t (v_makeFunc (.same rfl .nil)) ?_)
  refine cal_inv h fun y3 hy3 h => ?_
  refine op_cons rfl (t_call (slices_ContainsFunc_Lstring_string_w hy3) hT (.same rfl (.same rfl .nil)) (.cons .here .nil) (fun R H' hR => ?_))
  obtain ⟨rfl, rfl⟩ := hR
  refine op_cons rfl (OpV.t (v_assign rfl) ?_)
  refine rl_nil ?_
  refine fin_nxt ?_
  refine w_ret ?_
  refine ret_post (.tmp rfl .nil) .nil ?_
  obtain rfl := Option.some.inj h
  exact ⟨rfl, rfl⟩


def refs_reaches_C (f' : (List (List Int)) → Int → (List Bool) → Option ((List Bool))) : Prop :=
  ∀ {a_uses : (List (List Int))} {a_at_ : Int} {a_seen : (List Bool)} {v_a_seen : Vt} {r : (List Bool)}, f' a_uses a_at_ a_seen = some r → Ctr Tryd.prog 45 [isv (a_uses), isv (a_at_), vecv v_a_seen (a_seen.length)] [vecE v_a_seen (a_seen : List Bool)] (fun R H => R = oneOf [] ∧ H = [vecE v_a_seen (r)])
theorem refs_reaches_w0 {refs_reaches' : (List (List Int)) → Int → (List Bool) → Option ((List Bool))} (h_refs_reaches : refs_reaches_C refs_reaches') : ∀ {a_uses : (List (List Int))} {a_at_ : Int} {a_seen : (List Bool)} {v_a_seen : Vt} {r : (List Bool)}, refs_reaches_F refs_reaches' a_uses a_at_ a_seen = some r → Ctr Tryd.prog 45 [isv (a_uses), isv (a_at_), vecv v_a_seen (a_seen.length)] [vecE v_a_seen (a_seen : List Bool)] (fun R H => R = oneOf [] ∧ H = [vecE v_a_seen (r)]) := by
  intro a_uses a_at_ a_seen v_a_seen r h
  unfold refs_reaches_F at h
  refine spec_intro Tryd.func45 rfl (by decide +kernel) (by rfl) fun w0 S0 hT => ?_
  refine w_seq ?_
  refine w_region ?_
  refine op_cons rfl (OpV.t (v_move rfl) ?_)
  refine op_cons rfl (OpV.t (v_move rfl) ?_)
  refine cal_inv h fun y1 hy1 h => ?_
  refine op_cons rfl (OpV.t (v_ix (l := a_uses) rfl (fun _ _ h => h) rfl sl57 hy1) ?_)
  refine op_cons rfl (OpV.t (v_loadI ty23 rfl) ?_)
  refine op_cons rfl (OpV.t (v_ln (l := y1) rfl (fun _ _ h => h) sl23) ?_)
  refine op_cons rfl (OpV.t (v_move rfl) ?_)
  refine rl_nil ?_
  refine fin_nxt ?_
  refine w_block ?_
  refine w_lp (ι := (List Bool) × Int) (γ := Unit) (fun q2 g2 => [(13, isv (q2.2)), (2, vecv v_a_seen (q2.1.length))]) (fun q2 g2 => [vecE v_a_seen (q2.1 : List Bool)]) h () (mod_cons (j := 13) rfl (fun _ _ h => h) (mod_cons (j := 2) rfl (vecvE (by first | rfl | simp)) mod_nil)) (.cons .here .nil) (fun L3 q2 g2 Q24 h hL3 eL3 rL3 => ?_)
  refine w_seq ?_
  refine w_region ?_
  refine op_cons rfl (OpV.t (v_lss rfl rfl) ?_)
  refine rl_nil ?_
  refine fin_nxt ?_
  refine w_seq ?_
  refine w_condM h rfl (fun _ h => ?_) (fun _ h => ?_)
  · skip
    refine w_skip ?_
    refine fin_nxt ?_
    refine w_seq ?_
    refine w_J (ι := (List Bool)) (γ := Unit) (fun q14 g14 => [(2, vecv v_a_seen (q14.length))]) (fun q14 g14 => [vecE v_a_seen (q14 : List Bool)]) (.cons .here .nil) h (fun q14 g14 h => ?_) (fun J15 h hJ15 => ?_)
    · skip
      refine w_region ?_
      refine ck_inv h fun q23 h => ?_
      refine op_cons rfl (OpV.t (v_add rfl rfl q23) ?_)
      refine op_cons rfl (OpV.t (v_move rfl) ?_)
      refine rl_nil ?_
      exact hL3 _ () h _ (join_imp 6 rfl rfl (mod_cons (j := 13) rfl (fun _ _ h => h) (mod_cons (j := 2) rfl (vecvE (by first | rfl | simp)) mod_nil)) (.cons .here .nil))
    · skip
      refine w_block ?_
      refine w_seq ?_
      refine w_region ?_
      refine cal_inv h fun y16 hy16 h => ?_
      refine op_cons rfl (OpV.t (v_ix (l := y1) rfl (fun _ _ h => h) rfl sl23 hy16) ?_)
      refine op_cons rfl (OpV.t (v_loadI ty3 rfl) ?_)
      refine op_cons rfl (OpV.t (v_assign rfl) ?_)
      refine rl_nil ?_
      refine fin_nxt ?_
      refine w_seq ?_
      refine w_region ?_
      refine op_cons rfl (OpV.t (v_move rfl) ?_)
      refine op_cons rfl (OpV.t (v_move rfl) ?_)
      refine asd_inv h fun q17 h => ?_
      refine op_cons rfl (OpV.t (v_vidx (α := Bool) sl88 rfl rfl q17.1 q17.2) ?_)
      refine cal_inv h fun y18 hy18 h => ?_
      refine op_cons rfl (t_vload ty4 rfl .here hy18 ?_)
      refine op_cons rfl (OpV.t (v_not rfl) ?_)
      refine rl_nil ?_
      refine fin_nxt ?_
      refine w_condM h rfl (fun _ h => ?_) (fun _ h => ?_)
      · skip
        refine w_seq ?_
        refine w_region ?_
        refine op_cons rfl (OpV.t (v_move rfl) ?_)
        refine op_cons rfl (OpV.t (v_move rfl) ?_)
        refine asd_inv h fun q19 h => ?_
        refine op_cons rfl (OpV.t (v_vidx (α := Bool) sl88 rfl rfl q19.1 q19.2) ?_)
        refine cal_inv h fun y20 hy20 h => ?_
        refine op_cons rfl (t_vstore ty4 rfl rfl .here hy20 ?_)
        refine rl_nil ?_
        refine fin_nxt ?_
        refine w_region ?_
        refine op_cons rfl (OpV.t (v_move rfl) ?_)
        refine op_cons rfl (OpV.t (v_move rfl) ?_)
        refine op_cons rfl (OpV.t (v_move rfl) ?_)
        refine cal_inv h fun y21 hy21 h => ?_
        refine op_cons rfl (t_call (h_refs_reaches hy21) hT (.same rfl (.same rfl (.cons rfl (fun _ _ h => vecvE (by first | rfl | simp) _ _ h) .nil))) (.cons .here .nil) (fun R H' hR => ?_))
        obtain ⟨rfl, rfl⟩ := hR
        refine asd_inv h fun q22 h => ?_
        refine rl_upd (upd_slot 2 rfl (vecvE q22.symm)) ?_
        refine rl_upd (upd_slot 17 rfl (vecvE q22.symm)) ?_
        refine rl_upd (upd_slot 22 rfl (vecvE q22.symm)) ?_
        refine rl_upd (upd_slot 27 rfl (vecvE q22.symm)) ?_
        refine rl_nil ?_
        refine fin_block ?_
        exact hJ15 _ () h _ (join_imp 19 rfl rfl (mod_cons (j := 2) rfl (vecvE (by first | rfl | simp)) mod_nil) (.cons .here .nil))
      · skip
        refine w_skip ?_
        refine fin_block ?_
        exact hJ15 _ () h _ (join_imp 8 rfl rfl (mod_cons (j := 2) rfl (vecvE (by first | rfl | simp)) mod_nil) (.cons .here .nil))
  · skip
    refine w_exit ?_
    refine exi_nxt ?_
    refine eL3 _ _ ?_
    refine exi_block ?_
    refine fin_post .nil (.cons .here .nil) ?_
    obtain rfl := Option.some.inj h
    exact ⟨rfl, rfl⟩

theorem refs_reaches_grp_w : ∀ n, refs_reaches_C (refs_reaches n)
  | 0 => fun h => (by cases h)
  | n + 1 => refs_reaches_w0 (refs_reaches_grp_w n)
theorem refs_reaches_w (n : Nat) : refs_reaches_C (refs_reaches n) := (refs_reaches_grp_w n)

theorem refs_wrong_w : ∀ {a_m : GMod} {a_uses : (List (List Int))} {r : Int × Int}, refs_wrong a_m a_uses = some r → Ctr Tryd.prog 27 [isv (a_m), isv (a_uses)] [] (fun R H => R = oneOf [isv (r.1), isv (r.2)] ∧ H = []) := by
  intro a_m a_uses r h
  unfold refs_wrong at h
  refine spec_intro Tryd.func27 rfl (by decide +kernel) (by rfl) fun w0 S0 hT => ?_
  refine w_seq ?_
  refine w_region ?_
  refine op_cons rfl (t_boxIC (y := a_m) rfl (fun _ _ h => h) ?_)
  refine op_cons rfl (OpV.t (v_assign rfl) ?_)
  refine op_cons rfl (OpV.t (v_assign rfl) ?_)
  refine rl_nil ?_
  refine fin_nxt ?_
  refine w_seq ?_
  refine w_seq ?_
  refine w_region ?_
  refine op_cons rfl (OpV.t (v_fi rfl GMod.f2 fd26_2 rfl (z := a_m.names)) ?_)
  refine op_cons rfl (OpV.t (v_loadI ty22 rfl) ?_)
  refine op_cons rfl (OpV.t (v_ln (l := a_m.names) rfl (fun _ _ h => h) sl22) ?_)
  refine op_cons rfl (OpV.t (v_move rfl) ?_)
  refine rl_nil ?_
  refine fin_nxt ?_
  refine w_block ?_
  refine w_lp (ι := Int) (γ := Unit) (fun q1 g1 => [(14, isv (q1))]) (fun q1 g1 => []) h () (mod_cons (j := 14) rfl (fun _ _ h => h) mod_nil) .nil (fun L2 q1 g1 Q95 h hL2 eL2 rL2 => ?_)
  refine w_seq ?_
  refine w_region ?_
  refine op_cons rfl (OpV.t (v_lss rfl rfl) ?_)
  refine rl_nil ?_
  refine fin_nxt ?_
  refine w_seq ?_
  refine w_condM h rfl (fun _ h => ?_) (fun _ h => ?_)
  · skip
    refine w_skip ?_
    refine fin_nxt ?_
    refine w_seq ?_
    refine w_block ?_
    refine w_seq ?_
    refine w_region ?_
    refine op_cons rfl (OpV.t (v_move rfl) ?_)
    refine cal_inv h fun y49 hy49 h => ?_
    refine op_cons rfl (OpV.t (v_ix (l := a_m.names) rfl (fun _ _ h => h) rfl sl22 hy49) ?_)
    refine op_cons rfl (OpV.t (v_loadI ty9 rfl) ?_)
    refine op_cons rfl (OpV.t (v_assign rfl) ?_)
    refine op_cons rfl (OpV.t (v_assign rfl) ?_)
    refine rl_nil ?_
    refine fin_nxt ?_
    refine w_seq ?_
    refine w_region ?_
    refine op_cons rfl (OpV.t (v_loadI ty26 rfl) ?_)
    refine op_cons rfl (OpV.t (v_move rfl) ?_)
    refine cal_inv h fun y50 hy50 h => ?_
    refine op_cons rfl (t_call (refs_Find_w hy50) hT (.same rfl (.same rfl .nil)) .nil (fun R H' hR => ?_))
    obtain ⟨rfl, rfl⟩ := hR
    refine op_cons rfl (OpV.t (v_move rfl) ?_)
    refine op_cons rfl (OpV.t (v_lss rfl rfl) ?_)
    refine rl_nil ?_
    refine fin_nxt ?_
    refine w_condM h rfl (fun _ h => ?_) (fun _ h => ?_)
    · skip
      refine w_seq ?_
      refine w_region ?_
      refine op_cons rfl (OpV.t (v_move rfl) ?_)
      refine op_cons rfl (OpV.t (v_assign rfl) ?_)
      refine op_cons rfl (OpV.t (v_assign rfl) ?_)
      refine rl_nil ?_
      refine fin_nxt ?_
      refine w_ret ?_
      refine ret_block ?_
      refine ret_nxt ?_
      refine rL2 _ ?_
      refine ret_block ?_
      refine ret_nxt ?_
      refine ret_post (.tmp rfl (.tmp rfl .nil)) .nil ?_
      obtain rfl := Option.some.inj h
      exact ⟨rfl, rfl⟩
    · skip
      refine w_skip ?_
      refine fin_block ?_
      refine fin_nxt ?_
      refine w_region ?_
      refine ck_inv h fun q51 h => ?_
      refine op_cons rfl (OpV.t (v_add rfl rfl q51) ?_)
      refine op_cons rfl (OpV.t (v_move rfl) ?_)
      refine rl_nil ?_
      exact hL2 _ () h _ (join_imp 14 rfl rfl (mod_cons (j := 14) rfl (fun _ _ h => h) mod_nil) .nil)
  · skip
    refine w_exit ?_
    refine exi_nxt ?_
    refine eL2 _ _ ?_
    refine exi_block ?_
    refine fin_nxt ?_
    refine w_seq ?_
    refine w_seq ?_
    refine w_region ?_
    refine op_cons rfl (OpV.t (v_fi rfl GMod.f2 fd26_2 rfl (z := a_m.names)) ?_)
    refine op_cons rfl (OpV.t (v_loadI ty22 rfl) ?_)
    refine op_cons rfl (OpV.t (v_ln (l := a_m.names) rfl (fun _ _ h => h) sl22) ?_)
    refine op_cons rfl (OpV.t (v_move rfl) ?_)
    refine rl_nil ?_
    refine fin_nxt ?_
    refine w_block ?_
    refine w_lp (ι := Int) (γ := Unit) (fun q52 g52 => [(29, isv (q52))]) (fun q52 g52 => []) h () (mod_cons (j := 29) rfl (fun _ _ h => h) mod_nil) .nil (fun L53 q52 g52 Q94 h hL53 eL53 rL53 => ?_)
    refine w_seq ?_
    refine w_region ?_
    refine op_cons rfl (OpV.t (v_lss rfl rfl) ?_)
    refine rl_nil ?_
    refine fin_nxt ?_
    refine w_seq ?_
    refine w_condM h rfl (fun _ h => ?_) (fun _ h => ?_)
    · skip
      refine w_skip ?_
      refine fin_nxt ?_
      refine w_seq ?_
      refine w_block ?_
      refine w_seq ?_
      refine w_region ?_
      refine op_cons rfl (OpV.t (v_move rfl) ?_)
      refine op_cons rfl (OpV.t (v_assign rfl) ?_)
      refine rl_nil ?_
      refine fin_nxt ?_
      refine w_seq ?_
      refine w_regionD (.v 0 (.v 1 (.v 2 (.t 3 (.t 4 .nil))))) moOrd (by kernel_rfl) ?_
      refine rd_v rfl (v_loadI ty26 rfl) ?_
      refine rd_v rfl (v_loadI ty26 rfl) ?_
      refine rd_v rfl (v_move rfl) ?_
      refine cal_inv h fun y74 hy74 h => ?_
      refine rd_t rfl rfl (t_call (refs_of_w hy74) hT (.same rfl (.same rfl .nil)) .nil (fun R H' hR => ?_))
      obtain ⟨rfl, rfl⟩ := hR
      refine cal_inv h fun y75 hy75 h => ?_
      refine rd_t rfl rfl (t_call (refs_lost_w hy75) hT (.same rfl (.same rfl .nil)) .nil (fun R H' hR => ?_))
      obtain ⟨rfl, rfl⟩ := hR
      refine rd_nil ?_
      refine fin_nxt ?_
      refine w_condM h rfl (fun _ h => ?_) (fun _ h => ?_)
      · skip
        refine w_seq ?_
        refine w_region ?_
        refine op_cons rfl (OpV.t (v_move rfl) ?_)
        refine op_cons rfl (OpV.t (v_assign rfl) ?_)
        refine op_cons rfl (OpV.t (v_assign rfl) ?_)
        refine rl_nil ?_
        refine fin_nxt ?_
        refine w_ret ?_
        refine ret_block ?_
        refine ret_nxt ?_
        refine rL53 _ ?_
        refine ret_block ?_
        refine ret_nxt ?_
        refine ret_post (.tmp rfl (.tmp rfl .nil)) .nil ?_
        obtain rfl := Option.some.inj h
        exact ⟨rfl, rfl⟩
      · skip
        refine w_skip ?_
        refine fin_block ?_
        refine fin_nxt ?_
        refine w_region ?_
        refine ck_inv h fun q76 h => ?_
        refine op_cons rfl (OpV.t (v_add rfl rfl q76) ?_)
        refine op_cons rfl (OpV.t (v_move rfl) ?_)
        refine rl_nil ?_
        exact hL53 _ () h _ (join_imp 11 rfl rfl (mod_cons (j := 29) rfl (fun _ _ h => h) mod_nil) .nil)
    · skip
      refine w_exit ?_
      refine exi_nxt ?_
      refine eL53 _ _ ?_
      refine exi_block ?_
      refine fin_nxt ?_
      refine w_seq ?_
      refine w_seq ?_
      refine w_region ?_
      refine op_cons rfl (OpV.t (v_fi rfl GMod.f2 fd26_2 rfl (z := a_m.names)) ?_)
      refine op_cons rfl (OpV.t (v_loadI ty22 rfl) ?_)
      refine op_cons rfl (OpV.t (v_ln (l := a_m.names) rfl (fun _ _ h => h) sl22) ?_)
      refine op_cons rfl (OpV.t (v_move rfl) ?_)
      refine rl_nil ?_
      refine fin_nxt ?_
      refine w_block ?_
      refine w_lp (ι := Int) (γ := Unit) (fun q77 g77 => [(42, isv (q77))]) (fun q77 g77 => []) h () (mod_cons (j := 42) rfl (fun _ _ h => h) mod_nil) .nil (fun L78 q77 g77 Q93 h hL78 eL78 rL78 => ?_)
      refine w_seq ?_
      refine w_region ?_
      refine op_cons rfl (OpV.t (v_lss rfl rfl) ?_)
      refine rl_nil ?_
      refine fin_nxt ?_
      refine w_seq ?_
      refine w_condM h rfl (fun _ h => ?_) (fun _ h => ?_)
      · skip
        refine w_skip ?_
        refine fin_nxt ?_
        refine w_seq ?_
        refine w_block ?_
        refine w_seq ?_
        refine w_region ?_
        refine op_cons rfl (OpV.t (v_move rfl) ?_)
        refine op_cons rfl (OpV.t (v_assign rfl) ?_)
        refine rl_nil ?_
        refine fin_nxt ?_
        refine w_seq ?_
        refine w_region ?_
        refine op_cons rfl (OpV.t (v_fi rfl GMod.f2 fd26_2 rfl (z := a_m.names)) ?_)
        refine op_cons rfl (OpV.t (v_loadI ty22 rfl) ?_)
        refine op_cons rfl (OpV.t (v_ln (l := a_m.names) rfl (fun _ _ h => h) sl22) ?_)
        refine asd_inv h fun q86 h => ?_
        refine op_cons rfl (t_makeVec el88 ze4 Tryd.underlying88 rfl rfl q86.1 rfl q86.2 fun v87 => ?_)
        refine op_cons rfl (OpV.t (v_assign rfl) ?_)
        refine rl_nil ?_
        refine fin_nxt ?_
        refine w_seq ?_
        refine w_region ?_
        refine op_cons rfl (OpV.t (v_move rfl) ?_)
        refine op_cons rfl (OpV.t (v_move rfl) ?_)
        refine op_cons rfl (OpV.t (v_move rfl) ?_)
        refine cal_inv h fun y88 hy88 h => ?_
        refine op_cons rfl (t_call (refs_reaches_w fuel hy88) hT (.same rfl (.same rfl (.cons rfl (fun _ _ h => vecvE (by first | rfl | simp) _ _ h) .nil))) (.cons .here .nil) (fun R H' hR => ?_))
        obtain ⟨rfl, rfl⟩ := hR
        refine asd_inv h fun q89 h => ?_
        refine rl_upd (upd_slot 48 rfl (vecvE q89.symm)) ?_
        refine rl_upd (upd_slot 10 rfl (vecvE q89.symm)) ?_
        refine rl_upd (upd_slot 51 rfl (vecvE q89.symm)) ?_
        refine rl_nil ?_
        refine fin_nxt ?_
        refine w_seq ?_
        refine w_region ?_
        refine op_cons rfl (OpV.t (v_move rfl) ?_)
        refine op_cons rfl (OpV.t (v_move rfl) ?_)
        refine asd_inv h fun q90 h => ?_
        refine op_cons rfl (OpV.t (v_vidx (α := Bool) sl88 rfl rfl q90.1 q90.2) ?_)
        refine cal_inv h fun y91 hy91 h => ?_
        refine op_cons rfl (t_vload ty4 rfl .here hy91 ?_)
        refine rl_nil ?_
        refine fin_nxt ?_
        refine w_condM h rfl (fun _ h => ?_) (fun _ h => ?_)
        · skip
          refine w_seq ?_
          refine w_region ?_
          refine op_cons rfl (OpV.t (v_move rfl) ?_)
          refine op_cons rfl (OpV.t (v_assign rfl) ?_)
          refine op_cons rfl (OpV.t (v_assign rfl) ?_)
          refine rl_nil ?_
          refine fin_nxt ?_
          refine w_ret ?_
          refine ret_block ?_
          refine ret_nxt ?_
          refine rL78 _ ?_
          refine ret_block ?_
          refine ret_nxt ?_
          refine ret_post (.tmp rfl (.tmp rfl .nil)) .nil ?_
          obtain rfl := Option.some.inj h
          exact ⟨rfl, rfl⟩
        · skip
          refine w_skip ?_
          refine fin_block ?_
          refine fin_nxt ?_
          refine w_region ?_
          refine ck_inv h fun q92 h => ?_
          refine op_cons rfl (OpV.t (v_add rfl rfl q92) ?_)
          refine op_cons rfl (OpV.t (v_move rfl) ?_)
          refine rl_nil ?_
          exact hL78 _ () h _ (join_imp 22 rfl rfl (mod_cons (j := 42) rfl (fun _ _ h => h) mod_nil) .nil)
      · skip
        refine w_exit ?_
        refine exi_nxt ?_
        refine eL78 _ _ ?_
        refine exi_block ?_
        refine fin_nxt ?_
        refine w_seq ?_
        refine w_region ?_
        refine op_cons rfl (OpV.t (v_assign rfl) ?_)
        refine op_cons rfl (OpV.t (v_assign rfl) ?_)
        refine rl_nil ?_
        refine fin_nxt ?_
        refine w_ret ?_
        refine ret_post (.tmp rfl (.tmp rfl .nil)) .nil ?_
        obtain rfl := Option.some.inj h
        exact ⟨rfl, rfl⟩

end Go.Proofs.YtdcdndflfhaejaaDoor
