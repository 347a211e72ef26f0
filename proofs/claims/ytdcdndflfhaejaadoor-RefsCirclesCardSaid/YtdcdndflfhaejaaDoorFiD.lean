/- The lexer's answer as a plain function of the bytes that are left: white, names, hexes, strings, signs. No condition: general lemmas. -/
import Derived.Test.YtdcdndflfhaejaaDoorFiA
import Derived.Test.YtdcdndflfhaejaaDoorFiB
import Derived.Test.YtdcdndflfhaejaaDoorFiC

namespace Go.Proofs.YtdcdndflfhaejaaDoor
open Go.Sy
set_option maxRecDepth 4000
theorem r05_Parse_w : ∀ {a_text : Str} {r : GMod × Int × Int}, r05_Parse a_text = some r → Ctr Tryd.prog 8 [isv (a_text)] [] (fun R H => R = oneOf [isv (r.1), isv (r.2.1), isv (r.2.2)] ∧ H = []) := by
 intro a_text r h
 unfold r05_Parse at h
 refine spec_intro Tryd.func8 rfl (by decide +kernel) (by rfl) fun w0 S0 hT => ?_
 refine wsr ?_
 refine oT (t_alloc _ ze26 fun b1 => ?_)
 refine oV (v_assign rfl) ?_
 refine oV (v_assign rfl) ?_
 refine rnf ?_
 refine wsr ?_
 refine oV (v_move rfl) ?_
 refine cal_inv h fun y2 hy2 h => ?_
 refine oT (t_call (r04_Tokens_w hy2) hT (.same rfl .nil) .nil (fun R H' hR => ?_))
 obtain ⟨rfl, rfl⟩ := hR
 refine oV (v_move rfl) ?_
 refine oV (v_extract rfl rfl) ?_
 refine oV (v_extract rfl rfl) ?_
 refine oV (v_extract rfl rfl) ?_
 refine oV (v_assign rfl) ?_
 refine oV (v_assign rfl) ?_
 refine oV (v_assign rfl) ?_
 refine rnf ?_
 refine w_seq ?_
 refine wsr ?_
 refine oV (v_move rfl) ?_
 refine oV (v_neq rfl rfl) ?_
 refine rnf ?_
 refine w_condM h rfl (fun _ h => ?_) (fun _ h => ?_)
 ·
  refine wsr ?_
  refine oV (v_build (z := (GMod.mk (Str.mk []) (0 : Int) ([] : (List Str)) ([] : (List Int)) ([] : (List GNode)))) rfl bu26 ze26 .nil) ?_
  refine oV (v_move rfl) ?_
  refine oV (v_move rfl) ?_
  refine oT (t_storeC (y' := ((GMod.mk (Str.mk []) (0 : Int) ([] : (List Str)) ([] : (List Int)) ([] : (List GNode))) : GMod)) ty26 rfl rfl (fun _ _ h => h) .here rfl ?_)
  refine oV (v_assign rfl) ?_
  refine oV (v_assign rfl) ?_
  refine rnf ?_
  refine w_ret ?_
  refine ret_nxt ?_
  refine ret_post (.cell rfl .here ty26 (.tmp rfl (.tmp rfl .nil))) .nil ?_
  obtain rfl := Option.some.inj h
  exact ⟨rfl, rfl⟩
 ·
  refine wkf ?_
  refine wsr ?_
  refine oV (v_move rfl) ?_
  refine oV (v_build (z := ((y2.1, (0 : Int), ((Str.mk []), (0 : Int), (TList.mk none ([] : (List Str))), (TList.mk none ([] : (List Int))), (Vh.mk none 0)), (0 : Int), (0 : Int)) : ((List GTok) × Int × (Str × Int × (TList Str) × (TList Int) × Vh) × Int × Int))) rfl bu49 zt49_0 (.cons pt49_0_0 fd49_0 rfl (fun _ _ h => h) .nil)) ?_
  refine oT (t_boxC (y := ((y2.1, (0 : Int), ((Str.mk []), (0 : Int), (TList.mk none ([] : (List Str))), (TList.mk none ([] : (List Int))), (Vh.mk none 0)), (0 : Int), (0 : Int)) : ((List GTok) × Int × (Str × Int × (TList Str) × (TList Int) × Vh) × Int × Int))) rfl (fun _ _ h => h) fun b3 => ?_)
  refine rl_upd (upd_tok) ?_
  refine rl_upd (upd_tok) ?_
  refine rl_upd (upd_vec (α := GNode)) ?_
  refine oV (v_assign rfl) ?_
  refine rnf ?_
  refine wsr ?_
  refine oV (v_move rfl) ?_
  refine oV (v_move rfl) ?_
  refine cal_inv h fun y7 hy7 h => ?_
  refine oT (t_call (r05_parser_kind_w hy7) hT (.same rfl (.same rfl .nil)) (.cons (.there (.there (.there .here))) (.cons (.there (.there .here)) (.cons (.there .here) (.cons .here .nil)))) (fun R H' hR => ?_))
  obtain ⟨t8, t9, rfl, rfl⟩ := hR
  refine oV (v_nilCheck rfl) ?_
  refine oV (v_fa rfl pt49_0_2 fd49_2) ?_
  refine oV (v_fa rfl pt26_0_0 fd26_0) ?_
  refine oT (t_storeC (y' := ((y7.2.l, y7.2.at_, (y7.1, y7.2.m.tagging, (TList.mk t8 y7.2.m.names), (TList.mk t9 y7.2.m.types), (Vh.mk none y7.2.m.nodes.length)), y7.2.e, y7.2.p) : ((List GTok) × Int × (Str × Int × (TList Str) × (TList Int) × Vh) × Int × Int))) ty9 rfl rfl (fun _ _ h => h) .here rfl ?_)
  refine rnf ?_
  refine wsr ?_
  refine oV (v_move rfl) ?_
  refine cal_inv h fun y10 hy10 h => ?_
  refine oT (t_call (r05_parser_must_w hy10) hT (.same rfl (.same rfl .nil)) (.cons .here (.cons .here (.cons .here (.cons .here .nil)))) (fun R H' hR => ?_))
  obtain ⟨t11, t12, rfl, rfl⟩ := hR
  refine rnf ?_
  refine w_seq ?_
  refine w_J (ι := GPar) (γ := Tok × Tok) (fun q13 g13 => []) (fun q13 g13 => [boxE b3 ((q13.l, q13.at_, (q13.m.name, q13.m.tagging, (TList.mk g13.1 q13.m.names), (TList.mk g13.2 q13.m.types), (Vh.mk none q13.m.nodes.length)), q13.e, q13.p) : ((List GTok) × Int × (Str × Int × (TList Str) × (TList Int) × Vh) × Int × Int)), tokE g13.1, tokE g13.2, vecE none (q13.m.nodes : List GNode)]) (.cons .here (.cons .here (.cons .here (.cons .here .nil)))) h (fun q13 g13 h => ?_) (fun J14 h hJ14 => ?_)
  ·
   refine wsr ?_
   refine oV (v_move rfl) ?_
   refine cal_inv h fun y33 hy33 h => ?_
   refine oT (t_call (r05_parser_must_w hy33) hT (.same rfl (.same rfl .nil)) (.cons .here (.cons .here (.cons .here (.cons .here .nil)))) (fun R H' hR => ?_))
   obtain ⟨t34, t35, rfl, rfl⟩ := hR
   refine rnf ?_
   refine wsr ?_
   refine oV (v_move rfl) ?_
   refine cal_inv h fun y36 hy36 h => ?_
   refine oT (t_call (r05_parser_must_w hy36) hT (.same rfl (.same rfl .nil)) (.cons .here (.cons .here (.cons .here (.cons .here .nil)))) (fun R H' hR => ?_))
   obtain ⟨t37, t38, rfl, rfl⟩ := hR
   refine rnf ?_
   refine w_seq ?_
   refine w_block ?_
   refine w_lp (ι := GPar) (γ := Tok × Tok × Vt) (fun q39 g39 => []) (fun q39 g39 => [boxE b3 ((q39.l, q39.at_, (q39.m.name, q39.m.tagging, (TList.mk g39.1 q39.m.names), (TList.mk g39.2.1 q39.m.types), (Vh.mk g39.2.2 q39.m.nodes.length)), q39.e, q39.p) : ((List GTok) × Int × (Str × Int × (TList Str) × (TList Int) × Vh) × Int × Int)), tokE g39.1, tokE g39.2.1, vecE g39.2.2 (q39.m.nodes : List GNode)]) h (t37, t38, none) mod_nil (.cons .here (.cons .here (.cons .here (.cons .here .nil)))) (fun L40 q39 g39 Q141 h hL40 eL40 rL40 => ?_)
   refine w_seq ?_
   refine wsr ?_
   refine oV (v_move rfl) ?_
   refine oV (v_nilCheck rfl) ?_
   refine oV (v_fa rfl pt49_0_3 fd49_3) ?_
   refine oT (t_loadC (R := isv (q39.e)) ty27 rfl .here (fun _ _ h => h) ?_)
   refine oV (v_eql rfl rfl) ?_
   refine oV (v_move rfl) ?_
   refine rl_j (ι := Bool × GPar) (γ := Tok × Tok) (fun q91 g91 => [(70, isv (q91.1))]) (fun q91 g91 => [boxE b3 ((q91.2.l, q91.2.at_, (q91.2.m.name, q91.2.m.tagging, (TList.mk g91.1 q91.2.m.names), (TList.mk g91.2 q91.2.m.types), (Vh.mk g39.2.2 q91.2.m.nodes.length)), q91.2.e, q91.2.p) : ((List GTok) × Int × (Str × Int × (TList Str) × (TList Int) × Vh) × Int × Int)), tokE g91.1, tokE g91.2, vecE g39.2.2 (q91.2.m.nodes : List GNode)]) (.cons .here (.cons .here (.cons .here (.cons .here .nil)))) h 4 rfl (fun q91 g91 h => ?_) (fun J92 h hJ92 => ?_)
   ·
    refine rnf ?_
    refine w_condM h rfl (fun _ h => ?_) (fun _ h => ?_)
    ·
     refine wkf ?_
     refine w_block ?_
     refine wsr ?_
     refine oV (v_move rfl) ?_
     refine cal_inv h fun y97 hy97 h => ?_
     refine oT (t_call (r05_parser_now_w hy97) hT (.same rfl .nil) (.cons .here (.cons .here (.cons .here (.cons .here .nil)))) (fun R H' hR => ?_))
     obtain ⟨t98, t99, rfl, rfl⟩ := hR
     refine oT (t_alloc _ ze53 fun b100 => ?_)
     refine oT (t_storeC (y' := (y97.1 : GTok)) ty53 rfl rfl (fun _ _ h => h) .here rfl ?_)
     refine rl_upd (upd_imm 9 .here rfl) ?_
     refine rnf ?_
     refine wsr ?_
     refine oV (v_move rfl) ?_
     refine cal_inv h fun y101 hy101 h => ?_
     refine oT (t_call (r05_parser_kind_w hy101) hT (.same rfl (.same rfl .nil)) (.cons .here (.cons .here (.cons .here (.cons .here .nil)))) (fun R H' hR => ?_))
     obtain ⟨t102, t103, rfl, rfl⟩ := hR
     refine oV (v_assign rfl) ?_
     refine rnf ?_
     refine w_seq ?_
     refine wsr ?_
     refine oV (v_move rfl) ?_
     refine oV (v_nilCheck rfl) ?_
     refine oV (v_fa rfl pt49_0_3 fd49_3) ?_
     refine oT (t_loadC (R := isv (y101.2.e)) ty27 rfl .here (fun _ _ h => h) ?_)
     refine oV (v_eql rfl rfl) ?_
     refine oV (v_move rfl) ?_
     refine rl_j (ι := Bool) (γ := Unit) (fun q104 g104 => [(88, isv (q104))]) (fun q104 g104 => []) .nil h 8 rfl (fun q104 g104 h => ?_) (fun J105 h hJ105 => ?_)
     ·
      refine rnf ?_
      refine w_J (ι := GPar) (γ := Tok × Tok) (fun q107 g107 => []) (fun q107 g107 => [boxE b3 ((q107.l, q107.at_, (q107.m.name, q107.m.tagging, (TList.mk g107.1 q107.m.names), (TList.mk g107.2 q107.m.types), (Vh.mk g39.2.2 q107.m.nodes.length)), q107.e, q107.p) : ((List GTok) × Int × (Str × Int × (TList Str) × (TList Int) × Vh) × Int × Int)), tokE g107.1, tokE g107.2, vecE g39.2.2 (q107.m.nodes : List GNode)]) (.cons .here (.cons .here (.cons .here (.cons .here .nil)))) h (fun q107 g107 h => ?_) (fun J108 h hJ108 => ?_)
      ·
       refine wsr ?_
       refine oV (v_move rfl) ?_
       refine cal_inv h fun y112 hy112 h => ?_
       refine oT (t_call (r05_parser_must_w hy112) hT (.same rfl (.same rfl .nil)) (.cons .here (.cons .here (.cons .here (.cons .here .nil)))) (fun R H' hR => ?_))
       obtain ⟨t113, t114, rfl, rfl⟩ := hR
       refine rnf ?_
       refine wsr ?_
       refine oV (v_move rfl) ?_
       refine cal_inv h fun y115 hy115 h => ?_
       refine oT (t_call (r05_parser_typ_w fuel hy115) hT (.same rfl (.same rfl .nil)) (.cons .here (.cons .here (.cons .here (.cons .here .nil)))) (fun R H' hR => ?_))
       obtain ⟨t116, t117, v118, rfl, rfl⟩ := hR
       refine oV (v_assign rfl) ?_
       refine rnf ?_
       refine wsr ?_
       refine oV (v_move rfl) ?_
       refine oV (v_move rfl) ?_
       refine oV (v_nilCheck rfl) ?_
       refine oV (v_fa rfl pt49_0_2 fd49_2) ?_
       refine oV (v_fa rfl pt26_0_2 fd26_2) ?_
       refine oT (t_loadC (R := appv t116 (y115.2.m.names)) ty22 rfl .here isvT1 ?_)
       refine oV (v_move rfl) ?_
       refine oT (t_buildSlice (l := ([y101.1] : (List Str))) el22 (.cons rfl (fun _ _ h => h) .nil) rfl rfl ?_)
       refine asr_inv h fun q121 h => ?_
       refine oT (t_appC (l := y115.2.m.names) (m := ([y101.1] : (List Str))) ap22_22 rfl (fun _ _ h => h) rfl appv_isv (.there .here) q121 fun t120 => ?_)
       refine oV (v_nilCheck rfl) ?_
       refine oV (v_fa rfl pt49_0_2 fd49_2) ?_
       refine oV (v_fa rfl pt26_0_2 fd26_2) ?_
       refine oT (t_storeC (y' := ((y115.2.l, y115.2.at_, (y115.2.m.name, y115.2.m.tagging, (TList.mk t120 (y115.2.m.names ++ ([y101.1] : (List Str)))), (TList.mk t117 y115.2.m.types), (Vh.mk v118 y115.2.m.nodes.length)), y115.2.e, y115.2.p) : ((List GTok) × Int × (Str × Int × (TList Str) × (TList Int) × Vh) × Int × Int))) ty22 rfl rfl isvT2 (.there .here) rfl ?_)
       refine rnf ?_
       refine w_region ?_
       refine oV (v_move rfl) ?_
       refine oV (v_move rfl) ?_
       refine oV (v_nilCheck rfl) ?_
       refine oV (v_fa rfl pt49_0_2 fd49_2) ?_
       refine oV (v_fa rfl pt26_0_3 fd26_3) ?_
       refine oT (t_loadC (R := appv t117 (y115.2.m.types)) ty23 rfl .here isvT1 ?_)
       refine oV (v_move rfl) ?_
       refine oT (t_buildSlice (l := ([y115.1] : (List Int))) el23 (.cons rfl (fun _ _ h => h) .nil) rfl rfl ?_)
       refine asr_inv h fun q124 h => ?_
       refine oT (t_appC (l := y115.2.m.types) (m := ([y115.1] : (List Int))) ap23_23 rfl (fun _ _ h => h) rfl appv_isv (.there (.there .here)) q124 fun t123 => ?_)
       refine oV (v_nilCheck rfl) ?_
       refine oV (v_fa rfl pt49_0_2 fd49_2) ?_
       refine oV (v_fa rfl pt26_0_3 fd26_3) ?_
       refine oT (t_storeC (y' := ((y115.2.l, y115.2.at_, (y115.2.m.name, y115.2.m.tagging, (TList.mk t120 (y115.2.m.names ++ ([y101.1] : (List Str)))), (TList.mk t123 (y115.2.m.types ++ ([y115.1] : (List Int)))), (Vh.mk v118 y115.2.m.nodes.length)), y115.2.e, y115.2.p) : ((List GTok) × Int × (Str × Int × (TList Str) × (TList Int) × Vh) × Int × Int))) ty23 rfl rfl isvT2 (.there .here) rfl ?_)
       refine rl_nil ?_
       refine fin_block ?_
       exact hL40 _ (t120, t123, v118) h _ (join_imp 50 rfl rfl mod_nil (.cons .here (.cons (.there .here) (.cons .here (.cons .here (.cons .here .nil))))))
      ·
       refine w_condM h rfl (fun _ h => ?_) (fun _ h => ?_)
       ·
        refine w_region ?_
        refine oV (v_move rfl) ?_
        refine oV (v_loadI ty53 rfl) ?_
        refine cal_inv h fun y109 hy109 h => ?_
        refine oT (t_call (r05_parser_fail_w hy109) hT (.same rfl (.same rfl (.same rfl .nil))) (.cons .here (.cons .here (.cons .here (.cons .here .nil)))) (fun R H' hR => ?_))
        obtain ⟨t110, t111, rfl, rfl⟩ := hR
        refine rl_nil ?_
        exact hJ108 _ (t110, t111) h _ (join_imp 3 rfl rfl mod_nil (.cons .here (.cons .here (.cons .here (.cons .here (.cons .here .nil))))))
       ·
        refine w_skip ?_
        exact hJ108 _ (t102, t103) h _ (join_imp 0 rfl rfl mod_nil (.cons .here (.cons .here (.cons .here (.cons .here (.cons .here .nil))))))
     ·
      refine rl_condM (j := 80) h rfl (fun g106 h => ?_) (fun g106 h => ?_)
      ·
       refine op_take rfl rfl (dj := 80) rfl g106 (OpV.t (v_move rfl) ?_)
       refine op_take rfl rfl (dj := 80) rfl g106 (OpV.t (v_nilCheck rfl) ?_)
       refine op_take rfl rfl (dj := 80) rfl g106 (OpV.t (v_fa rfl pt49_0_2 fd49_2) ?_)
       refine op_take rfl rfl (dj := 80) rfl g106 (OpV.t (v_fa rfl pt26_0_2 fd26_2) ?_)
       refine op_take rfl rfl (dj := 80) rfl g106 (t_loadC (R := appv t102 (y101.2.m.names)) ty22 rfl .here isvT1 ?_)
       refine op_take rfl rfl (dj := 80) rfl g106 (OpV.t (v_ln (l := y101.2.m.names) rfl appv_isv sl22) ?_)
       refine op_take rfl rfl (dj := 80) rfl g106 (OpV.t (v_geq rfl rfl) ?_)
       refine oV (v_pick_t rfl g106 rfl) ?_
       exact hJ105 _ () h _ (join_imp 8 rfl rfl (mod_cons (j := 88) rfl (fun _ _ h => h) mod_nil) (.cons .here (.cons .here (.cons .here (.cons .here (.cons .here .nil))))))
      ·
       refine op_pass rfl (dj := 80) rfl g106 ?_
       refine op_pass rfl (dj := 80) rfl g106 ?_
       refine op_pass rfl (dj := 80) rfl g106 ?_
       refine op_pass rfl (dj := 80) rfl g106 ?_
       refine op_pass rfl (dj := 80) rfl g106 ?_
       refine op_pass rfl (dj := 80) rfl g106 ?_
       refine op_pass rfl (dj := 80) rfl g106 ?_
       refine oV (v_pick_f rfl g106 rfl) ?_
       exact hJ105 _ () h _ (join_imp 8 rfl rfl (mod_cons (j := 88) rfl (fun _ _ h => h) mod_nil) (.cons .here (.cons .here (.cons .here (.cons .here (.cons .here .nil))))))
    ·
     refine w_exit ?_
     refine exi_nxt ?_
     refine eL40 _ _ ?_
     refine exi_block ?_
     refine fin_nxt ?_
     refine w_seq ?_
     refine wsr ?_
     refine oV (v_move rfl) ?_
     refine oV (v_nilCheck rfl) ?_
     refine oV (v_fa rfl pt49_0_3 fd49_3) ?_
     refine oT (t_loadC (R := isv (q91.2.e)) ty27 rfl .here (fun _ _ h => h) ?_)
     refine oV (v_eql rfl rfl) ?_
     refine oV (v_move rfl) ?_
     refine rl_j (ι := Bool × GPar) (γ := Tok × Tok) (fun q125 g125 => [(130, isv (q125.1))]) (fun q125 g125 => [boxE b3 ((q125.2.l, q125.2.at_, (q125.2.m.name, q125.2.m.tagging, (TList.mk g125.1 q125.2.m.names), (TList.mk g125.2 q125.2.m.types), (Vh.mk g39.2.2 q125.2.m.nodes.length)), q125.2.e, q125.2.p) : ((List GTok) × Int × (Str × Int × (TList Str) × (TList Int) × Vh) × Int × Int)), tokE g125.1, tokE g125.2, vecE g39.2.2 (q125.2.m.nodes : List GNode)]) (.cons .here (.cons .here (.cons .here (.cons .here .nil)))) h 5 rfl (fun q125 g125 h => ?_) (fun J126 h hJ126 => ?_)
     ·
      refine rnf ?_
      refine w_J (ι := GPar) (γ := Tok × Tok) (fun q131 g131 => []) (fun q131 g131 => [boxE b3 ((q131.l, q131.at_, (q131.m.name, q131.m.tagging, (TList.mk g131.1 q131.m.names), (TList.mk g131.2 q131.m.types), (Vh.mk g39.2.2 q131.m.nodes.length)), q131.e, q131.p) : ((List GTok) × Int × (Str × Int × (TList Str) × (TList Int) × Vh) × Int × Int)), tokE g131.1, tokE g131.2, vecE g39.2.2 (q131.m.nodes : List GNode)]) (.cons .here (.cons .here (.cons .here (.cons .here .nil)))) h (fun q131 g131 h => ?_) (fun J132 h hJ132 => ?_)
      ·
       refine w_seq ?_
       refine wsr ?_
       refine oV (v_move rfl) ?_
       refine oV (v_nilCheck rfl) ?_
       refine oV (v_fa rfl pt49_0_3 fd49_3) ?_
       refine oT (t_loadC (R := isv (q131.e)) ty27 rfl .here (fun _ _ h => h) ?_)
       refine oV (v_neq rfl rfl) ?_
       refine rnf ?_
       refine w_condM h rfl (fun _ h => ?_) (fun _ h => ?_)
       ·
        refine w_seq ?_
        refine w_pinN 8 .here rfl (fun o139 hn140 => ?_)
        refine w_regionD (.v 0 (.v 1 (.v 2 (.v 3 (.v 4 (.v 5 (.v 6 (.v 7 (.v 8 (.t 9 (.v 10 (.v 11 .nil)))))))))))) moOrd (by kernel_rfl) ?_
        refine rd_v rfl (v_build (z := (GMod.mk (Str.mk []) (0 : Int) ([] : (List Str)) ([] : (List Int)) ([] : (List GNode)))) rfl bu26 ze26 .nil) ?_
        refine rd_v rfl (v_move rfl) ?_
        refine rd_v rfl (v_nilCheckP rfl) ?_
        refine rd_v rfl (v_fp rfl pt49_0_4 fd49_4) ?_
        refine rd_v rfl (v_lpC (R := isv (q131.p)) ty3 rfl (List.Mem.head _) (fun _ _ h => h)) ?_
        refine rd_v rfl (v_move rfl) ?_
        refine rd_v rfl (v_nilCheckP rfl) ?_
        refine rd_v rfl (v_fp rfl pt49_0_3 fd49_3) ?_
        refine rd_v rfl (v_lpC (R := isv (q131.e)) ty27 rfl (List.Mem.head _) (fun _ _ h => h)) ?_
        refine rd_t rfl rfl (t_storeC (y' := ((GMod.mk (Str.mk []) (0 : Int) ([] : (List Str)) ([] : (List Int)) ([] : (List GNode))) : GMod)) ty26 rfl rfl (fun _ _ h => h) (.there (.there (.there .here))) rfl ?_)
        refine rd_v rfl (v_assign rfl) ?_
        refine rd_v rfl (v_assign rfl) ?_
        refine rd_nil ?_
        refine fin_unpinN 8 hn140 rfl ?_
        refine fin_nxt ?_
        refine w_ret ?_
        refine ret_nxt ?_
        refine ret_post (.cell rfl (.there .here) ty26 (.tmp rfl (.tmp rfl .nil))) .nil ?_
        obtain rfl := Option.some.inj h
        exact ⟨rfl, rfl⟩
       ·
        refine wkf ?_
        refine wsr ?_
        refine oV (v_move rfl) ?_
        refine oV (v_nilCheck rfl) ?_
        refine oV (v_fa rfl pt49_0_2 fd49_2) ?_
        refine rl_upd (upd_frzB (y := ((q131.l, q131.at_, (q131.m.name, q131.m.tagging, (TList.mk g131.1 q131.m.names), (TList.mk g131.2 q131.m.types), q131.m.nodes), q131.e, q131.p) : ((List GTok) × Int × (Str × Int × (TList Str) × (TList Int) × (List GNode)) × Int × Int))) (.there (.there (.there .here))) .here (fun S hv => (Cv.pair Cv.id (Cv.pair Cv.id (Cv.pair (Cv.pair Cv.id (Cv.pair Cv.id (Cv.pair Cv.id (Cv.pair Cv.id (Cv.vh hv (by first | rfl | simp)))))) (Cv.pair Cv.id Cv.id)))))) ?_
        refine rl_upd (upd_slot (R' := ptrv b3 ((Fld.id (((List GTok) × Int × (Str × Int × (TList Str) × (TList Int) × (List GNode)) × Int × Int))).comp pt49_1_2)) 151 rfl (fun _ _ h => h)) ?_
        refine oT (t_loadC (y := ((q131.l, q131.at_, (q131.m.name, q131.m.tagging, (TList.mk g131.1 q131.m.names), (TList.mk g131.2 q131.m.types), q131.m.nodes), q131.e, q131.p) : ((List GTok) × Int × (Str × Int × (TList Str) × (TList Int) × (List GNode)) × Int × Int))) (R := isv (((q131.m.name, q131.m.tagging, (TList.mk g131.1 q131.m.names), (TList.mk g131.2 q131.m.types), q131.m.nodes)) : ((Str × Int × (TList Str) × (TList Int) × (List GNode))))) ty26 rfl .here (by exact (fun _ _ h => h)) ?_)
        refine rl_upd (upd_slot (R' := isv (q131.m)) 152 rfl (Cv.isv rfl fun S => (fun cs h => GMod.cv (x := q131.m) cs (((Cv.pair Cv.id (Cv.pair Cv.id (Cv.pair Cv.tl (Cv.pair Cv.tl Cv.id)))) : Cv S ((q131.m.name, q131.m.tagging, (TList.mk g131.1 q131.m.names), (TList.mk g131.2 q131.m.types), q131.m.nodes) : (Str × Int × (TList Str) × (TList Int) × (List GNode))) (GMod.to q131.m)) cs h)))) ?_
        refine oT (t_storeC (y' := (q131.m : GMod)) ty26 rfl rfl (fun _ _ h => h) (.there (.there (.there .here))) rfl ?_)
        refine oV (v_assign rfl) ?_
        refine oV (v_assign rfl) ?_
        refine rnf ?_
        refine w_ret ?_
        refine ret_post (.cell rfl .here ty26 (.tmp rfl (.tmp rfl .nil))) .nil ?_
        obtain rfl := Option.some.inj h
        exact ⟨rfl, rfl⟩
      ·
       refine w_condM h rfl (fun _ h => ?_) (fun _ h => ?_)
       ·
        refine w_region ?_
        refine oV (v_move rfl) ?_
        refine oV (v_move rfl) ?_
        refine cal_inv h fun y133 hy133 h => ?_
        refine oT (t_call (r05_parser_now_w hy133) hT (.same rfl .nil) (.cons .here (.cons .here (.cons .here (.cons .here .nil)))) (fun R H' hR => ?_))
        obtain ⟨t134, t135, rfl, rfl⟩ := hR
        refine cal_inv h fun y136 hy136 h => ?_
        refine oT (t_call (r05_parser_fail_w hy136) hT (.same rfl (.same rfl (.same rfl .nil))) (.cons .here (.cons .here (.cons .here (.cons .here .nil)))) (fun R H' hR => ?_))
        obtain ⟨t137, t138, rfl, rfl⟩ := hR
        refine rl_nil ?_
        exact hJ132 _ (t137, t138) h _ (join_imp 4 rfl rfl mod_nil (.cons .here (.cons .here (.cons .here (.cons .here (.cons .here .nil))))))
       ·
        refine w_skip ?_
        exact hJ132 _ (g125.1, g125.2) h _ (join_imp 0 rfl rfl mod_nil (.cons .here (.cons .here (.cons .here (.cons .here (.cons .here .nil))))))
     ·
      refine rl_condM (j := 125) h rfl (fun g127 h => ?_) (fun g127 h => ?_)
      ·
       refine op_take rfl rfl (dj := 125) rfl g127 (OpV.t (v_move rfl) ?_)
       refine cal_inv h fun y128 hy128 h => ?_
       refine op_take rfl rfl (dj := 125) rfl g127 (t_call (r05_parser_now_w hy128) hT (.same rfl .nil) (.cons .here (.cons .here (.cons .here (.cons .here .nil)))) (fun R H' hR => ?_))
       obtain ⟨t129, t130, rfl, rfl⟩ := hR
       refine op_take rfl rfl (dj := 125) rfl g127 (OpV.t (v_field GTok.f0 rfl fd53_0 rfl) ?_)
       refine op_take rfl rfl (dj := 125) rfl g127 (OpV.t (v_neq rfl rfl) ?_)
       refine oV (v_pick_t rfl g127 rfl) ?_
       exact hJ126 _ (t129, t130) h _ (join_imp 5 rfl rfl (mod_cons (j := 130) rfl (fun _ _ h => h) mod_nil) (.cons .here (.cons .here (.cons .here (.cons .here (.cons .here .nil))))))
      ·
       refine op_pass rfl (dj := 125) rfl g127 ?_
       refine op_pass rfl (dj := 125) rfl g127 ?_
       refine op_pass rfl (dj := 125) rfl g127 ?_
       refine op_pass rfl (dj := 125) rfl g127 ?_
       refine oV (v_pick_f rfl g127 rfl) ?_
       exact hJ126 _ (g91.1, g91.2) h _ (join_imp 5 rfl rfl (mod_cons (j := 130) rfl (fun _ _ h => h) mod_nil) (.cons .here (.cons .here (.cons .here (.cons .here (.cons .here .nil))))))
   ·
    refine rl_condM (j := 66) h rfl (fun g93 h => ?_) (fun g93 h => ?_)
    ·
     refine op_take rfl rfl (dj := 66) rfl g93 (OpV.t (v_move rfl) ?_)
     refine cal_inv h fun y94 hy94 h => ?_
     refine op_take rfl rfl (dj := 66) rfl g93 (t_call (r05_parser_is_w hy94) hT (.same rfl (.same rfl .nil)) (.cons .here (.cons .here (.cons .here (.cons .here .nil)))) (fun R H' hR => ?_))
     obtain ⟨t95, t96, rfl, rfl⟩ := hR
     refine op_take rfl rfl (dj := 66) rfl g93 (OpV.t (v_not rfl) ?_)
     refine oV (v_pick_t rfl g93 rfl) ?_
     exact hJ92 _ (t95, t96) h _ (join_imp 4 rfl rfl (mod_cons (j := 70) rfl (fun _ _ h => h) mod_nil) (.cons .here (.cons .here (.cons .here (.cons .here (.cons .here .nil))))))
    ·
     refine op_pass rfl (dj := 66) rfl g93 ?_
     refine op_pass rfl (dj := 66) rfl g93 ?_
     refine op_pass rfl (dj := 66) rfl g93 ?_
     refine oV (v_pick_f rfl g93 rfl) ?_
     exact hJ92 _ (g39.1, g39.2.1) h _ (join_imp 4 rfl rfl (mod_cons (j := 70) rfl (fun _ _ h => h) mod_nil) (.cons .here (.cons .here (.cons .here (.cons .here (.cons .here .nil))))))
  ·
   refine w_block ?_
   refine wsr ?_
   refine oV (v_move rfl) ?_
   refine cal_inv h fun y15 hy15 h => ?_
   refine oT (t_call (r05_parser_is_w hy15) hT (.same rfl (.same rfl .nil)) (.cons .here (.cons .here (.cons .here (.cons .here .nil)))) (fun R H' hR => ?_))
   obtain ⟨t16, t17, rfl, rfl⟩ := hR
   refine oV (v_assign rfl) ?_
   refine rnf ?_
   refine w_condM h rfl (fun _ h => ?_) (fun _ h => ?_)
   ·
    refine w_region ?_
    refine oV (v_move rfl) ?_
    refine cal_inv h fun y18 hy18 h => ?_
    refine oT (t_call (r05_parser_must_w hy18) hT (.same rfl (.same rfl .nil)) (.cons .here (.cons .here (.cons .here (.cons .here .nil)))) (fun R H' hR => ?_))
    obtain ⟨t19, t20, rfl, rfl⟩ := hR
    refine rl_nil ?_
    refine fin_block ?_
    exact hJ14 _ (t19, t20) h _ (join_imp 5 rfl rfl mod_nil (.cons .here (.cons .here (.cons .here (.cons .here (.cons .here .nil))))))
   ·
    refine wsr ?_
    refine oV (v_move rfl) ?_
    refine cal_inv h fun y21 hy21 h => ?_
    refine oT (t_call (r05_parser_is_w hy21) hT (.same rfl (.same rfl .nil)) (.cons .here (.cons .here (.cons .here (.cons .here .nil)))) (fun R H' hR => ?_))
    obtain ⟨t22, t23, rfl, rfl⟩ := hR
    refine oV (v_assign rfl) ?_
    refine rnf ?_
    refine w_condM h rfl (fun _ h => ?_) (fun _ h => ?_)
    ·
     refine wsr ?_
     refine oV (v_move rfl) ?_
     refine oV (v_nilCheck rfl) ?_
     refine oV (v_fa rfl pt49_0_2 fd49_2) ?_
     refine oV (v_fa rfl pt26_0_1 fd26_1) ?_
     refine oT (t_storeC (y' := ((y21.2.l, y21.2.at_, (y21.2.m.name, (1 : Int), (TList.mk t22 y21.2.m.names), (TList.mk t23 y21.2.m.types), (Vh.mk none y21.2.m.nodes.length)), y21.2.e, y21.2.p) : ((List GTok) × Int × (Str × Int × (TList Str) × (TList Int) × Vh) × Int × Int))) ty3 rfl rfl (fun _ _ h => h) .here rfl ?_)
     refine rnf ?_
     refine w_region ?_
     refine oV (v_move rfl) ?_
     refine cal_inv h fun y24 hy24 h => ?_
     refine oT (t_call (r05_parser_must_w hy24) hT (.same rfl (.same rfl .nil)) (.cons .here (.cons .here (.cons .here (.cons .here .nil)))) (fun R H' hR => ?_))
     obtain ⟨t25, t26, rfl, rfl⟩ := hR
     refine rl_nil ?_
     refine fin_block ?_
     exact hJ14 _ (t25, t26) h _ (join_imp 12 rfl rfl mod_nil (.cons .here (.cons .here (.cons .here (.cons .here (.cons .here .nil))))))
    ·
     refine wsr ?_
     refine oV (v_move rfl) ?_
     refine cal_inv h fun y27 hy27 h => ?_
     refine oT (t_call (r05_parser_is_w hy27) hT (.same rfl (.same rfl .nil)) (.cons .here (.cons .here (.cons .here (.cons .here .nil)))) (fun R H' hR => ?_))
     obtain ⟨t28, t29, rfl, rfl⟩ := hR
     refine oV (v_assign rfl) ?_
     refine rnf ?_
     refine w_condM h rfl (fun _ h => ?_) (fun _ h => ?_)
     ·
      refine wsr ?_
      refine oV (v_move rfl) ?_
      refine oV (v_nilCheck rfl) ?_
      refine oV (v_fa rfl pt49_0_2 fd49_2) ?_
      refine oV (v_fa rfl pt26_0_1 fd26_1) ?_
      refine oT (t_storeC (y' := ((y27.2.l, y27.2.at_, (y27.2.m.name, (2 : Int), (TList.mk t28 y27.2.m.names), (TList.mk t29 y27.2.m.types), (Vh.mk none y27.2.m.nodes.length)), y27.2.e, y27.2.p) : ((List GTok) × Int × (Str × Int × (TList Str) × (TList Int) × Vh) × Int × Int))) ty3 rfl rfl (fun _ _ h => h) .here rfl ?_)
      refine rnf ?_
      refine w_region ?_
      refine oV (v_move rfl) ?_
      refine cal_inv h fun y30 hy30 h => ?_
      refine oT (t_call (r05_parser_must_w hy30) hT (.same rfl (.same rfl .nil)) (.cons .here (.cons .here (.cons .here (.cons .here .nil)))) (fun R H' hR => ?_))
      obtain ⟨t31, t32, rfl, rfl⟩ := hR
      refine rl_nil ?_
      refine fin_block ?_
      exact hJ14 _ (t31, t32) h _ (join_imp 15 rfl rfl mod_nil (.cons .here (.cons .here (.cons .here (.cons .here (.cons .here .nil))))))
     ·
      refine w_skip ?_
      refine fin_block ?_
      exact hJ14 _ (t28, t29) h _ (join_imp 9 rfl rfl mod_nil (.cons .here (.cons .here (.cons .here (.cons .here (.cons .here .nil))))))

end Go.Proofs.YtdcdndflfhaejaaDoor


namespace Go.Proofs.YtdcdndflfhaejaaDoor
open Go.Sy
set_option maxRecDepth 4000
theorem refs_of_w : ∀ {a_m : GMod} {a_at_ : Int} {r : Int}, refs_of a_m a_at_ = some r → Ctr Tryd.prog 26 [isv (a_m), isv (a_at_)] [] (fun R H => R = oneOf [isv (r)] ∧ H = []) := by
 intro a_m a_at_ r h
 unfold refs_of at h
 refine spec_intro Tryd.func26 rfl (by decide +kernel) (by rfl) fun w0 S0 hT => ?_
 refine wsr ?_
 refine oT (t_boxIC (y := a_m) rfl (fun _ _ h => h) ?_)
 refine oV (v_assign rfl) ?_
 refine rnf ?_
 refine w_seq ?_
 refine wsr ?_
 refine oV (v_move rfl) ?_
 refine oV (v_fi rfl GMod.f3 fd26_3 rfl (z := a_m.types)) ?_
 refine oV (v_loadI ty23 rfl) ?_
 refine oV (v_ln (l := a_m.types) rfl (fun _ _ h => h) sl23) ?_
 refine oV (v_geq rfl rfl) ?_
 refine rnf ?_
 refine w_condM h rfl (fun _ h => ?_) (fun _ h => ?_)
 ·
  refine wsr ?_
  refine oV (v_assign rfl) ?_
  refine rnf ?_
  refine w_ret ?_
  refine ret_nxt ?_
  refine ret_post (.tmp rfl .nil) .nil ?_
  obtain rfl := Option.some.inj h
  exact ⟨rfl, rfl⟩
 ·
  refine wkf ?_
  refine wsr ?_
  refine oV (v_fi rfl GMod.f3 fd26_3 rfl (z := a_m.types)) ?_
  refine oV (v_loadI ty23 rfl) ?_
  refine oV (v_move rfl) ?_
  refine cal_inv h fun y1 hy1 h => ?_
  refine oV (v_ix (l := a_m.types) rfl (fun _ _ h => h) rfl sl23 hy1) ?_
  refine oV (v_loadI ty3 rfl) ?_
  refine oV (v_assign rfl) ?_
  refine rnf ?_
  refine w_ret ?_
  refine ret_post (.tmp rfl .nil) .nil ?_
  obtain rfl := Option.some.inj h
  exact ⟨rfl, rfl⟩


theorem slices_Index_Lstring_string_w : ∀ {a_s : (List Str)} {a_v : Str} {r : Int}, slices_Index_Lstring_string a_s a_v = some r → Ctr Tryd.prog 34 [isv (a_s), isv (a_v)] [] (fun R H => R = oneOf [isv (r)] ∧ H = []) := by
 intro a_s a_v r h
 unfold slices_Index_Lstring_string at h
 refine spec_intro Tryd.func34 rfl (by decide +kernel) (by rfl) fun w0 S0 hT => ?_
 refine wsr ?_
 refine oV (v_assign rfl) ?_
 refine rnf ?_
 refine w_seq ?_
 refine wsr ?_
 refine oV (v_move rfl) ?_
 refine oV (v_ln (l := a_s) rfl (fun _ _ h => h) sl22) ?_
 refine oV (v_move rfl) ?_
 refine rnf ?_
 refine w_block ?_
 refine w_lp (ι := Int) (γ := Unit) (fun q1 g1 => [(8, isv (q1))]) (fun q1 g1 => []) h () (mod_cons (j := 8) rfl (fun _ _ h => h) mod_nil) .nil (fun L2 q1 g1 Q7 h hL2 eL2 rL2 => ?_)
 refine wsr ?_
 refine oV (v_lss rfl rfl) ?_
 refine rnf ?_
 refine w_seq ?_
 refine w_condM h rfl (fun _ h => ?_) (fun _ h => ?_)
 ·
  refine wkf ?_
  refine w_seq ?_
  refine w_block ?_
  refine wsr ?_
  refine oV (v_move rfl) ?_
  refine oV (v_assign rfl) ?_
  refine rnf ?_
  refine wsr ?_
  refine oV (v_move rfl) ?_
  refine oV (v_move rfl) ?_
  refine oV (v_move rfl) ?_
  refine cal_inv h fun y5 hy5 h => ?_
  refine oV (v_ix (l := a_s) rfl (fun _ _ h => h) rfl sl22 hy5) ?_
  refine oV (v_loadI ty9 rfl) ?_
  refine oV (v_eqA eq9 rfl rfl) ?_
  refine rnf ?_
  refine w_condM h rfl (fun _ h => ?_) (fun _ h => ?_)
  ·
   refine wsr ?_
   refine oV (v_move rfl) ?_
   refine oV (v_assign rfl) ?_
   refine rnf ?_
   refine w_ret ?_
   refine ret_block ?_
   refine ret_nxt ?_
   refine rL2 _ ?_
   refine ret_block ?_
   refine ret_nxt ?_
   refine ret_post (.tmp rfl .nil) .nil ?_
   obtain rfl := Option.some.inj h
   exact ⟨rfl, rfl⟩
  ·
   refine w_skip ?_
   refine fin_block ?_
   refine fin_nxt ?_
   refine w_region ?_
   refine ck_inv h fun q6 h => ?_
   refine oV (v_add rfl rfl q6) ?_
   refine oV (v_move rfl) ?_
   refine rl_nil ?_
   exact hL2 _ () h _ (join_imp 12 rfl rfl (mod_cons (j := 8) rfl (fun _ _ h => h) mod_nil) .nil)
 ·
  refine w_exit ?_
  refine exi_nxt ?_
  refine eL2 _ _ ?_
  refine exi_block ?_
  refine fin_nxt ?_
  refine wsr ?_
  refine oV (v_assign rfl) ?_
  refine rnf ?_
  refine w_ret ?_
  refine ret_post (.tmp rfl .nil) .nil ?_
  obtain rfl := Option.some.inj h
  exact ⟨rfl, rfl⟩


theorem slices_Contains_Lstring_string_w : ∀ {a_s : (List Str)} {a_v : Str} {r : Bool}, slices_Contains_Lstring_string a_s a_v = some r → Ctr Tryd.prog 67 [isv (a_s), isv (a_v)] [] (fun R H => R = oneOf [isv (r)] ∧ H = []) := by
 intro a_s a_v r h
 unfold slices_Contains_Lstring_string at h
 refine spec_intro Tryd.func67 rfl (by decide +kernel) (by rfl) fun w0 S0 hT => ?_
 refine wsr ?_
 refine oV (v_assign rfl) ?_
 refine rnf ?_
 refine wsr ?_
 refine oV (v_move rfl) ?_
 refine oV (v_move rfl) ?_
 refine cal_inv h fun y1 hy1 h => ?_
 refine oT (t_call (slices_Index_Lstring_string_w hy1) hT (.same rfl (.same rfl .nil)) .nil (fun R H' hR => ?_))
 obtain ⟨rfl, rfl⟩ := hR
 refine oV (v_geq rfl rfl) ?_
 refine oV (v_assign rfl) ?_
 refine rnf ?_
 refine w_ret ?_
 refine ret_post (.tmp rfl .nil) .nil ?_
 obtain rfl := Option.some.inj h
 exact ⟨rfl, rfl⟩


theorem refs_with_w : ∀ {a_l : (List Str)} {a_more : (List Str)} {t_a_l : Tok} {r : (List Str)}, refs_with a_l a_more = some r → Ctr Tryd.prog 50 [appv t_a_l (a_l), isv (a_more)] [tokE t_a_l] (fun R H => ∃ u1 : Tok, R = oneOf [appv u1 (r)] ∧ H = [tokE u1]) := by
 intro a_l a_more t_a_l r h
 unfold refs_with at h
 refine spec_intro Tryd.func50 rfl (by decide +kernel) (by rfl) fun w0 S0 hT => ?_
 refine wsr ?_
 refine oV (v_assign rfl) ?_
 refine rnf ?_
 refine w_seq ?_
 refine wsr ?_
 refine oV (v_move rfl) ?_
 refine oV (v_ln (l := a_more) rfl (fun _ _ h => h) sl22) ?_
 refine oV (v_move rfl) ?_
 refine rnf ?_
 refine w_block ?_
 refine w_lp (ι := (List Str) × Int) (γ := Tok) (fun q1 g1 => [(0, appv g1 (q1.1)), (9, isv (q1.2))]) (fun q1 g1 => [tokE g1]) h (t_a_l) (mod_cons (j := 0) rfl (fun _ _ h => h) (mod_cons (j := 9) rfl (fun _ _ h => h) mod_nil)) (.cons .here .nil) (fun L2 q1 g1 Q19 h hL2 eL2 rL2 => ?_)
 refine wsr ?_
 refine oV (v_lss rfl rfl) ?_
 refine rnf ?_
 refine w_seq ?_
 refine w_condM h rfl (fun _ h => ?_) (fun _ h => ?_)
 ·
  refine wkf ?_
  refine w_seq ?_
  refine w_J (ι := (List Str)) (γ := Tok) (fun q11 g11 => [(0, appv g11 (q11))]) (fun q11 g11 => [tokE g11]) (.cons .here .nil) h (fun q11 g11 h => ?_) (fun J12 h hJ12 => ?_)
  ·
   refine w_region ?_
   refine ck_inv h fun q18 h => ?_
   refine oV (v_add rfl rfl q18) ?_
   refine oV (v_move rfl) ?_
   refine rl_nil ?_
   exact hL2 _ (g11) h _ (join_imp 6 rfl rfl (mod_cons (j := 0) rfl (fun _ _ h => h) (mod_cons (j := 9) rfl (fun _ _ h => h) mod_nil)) (.cons .here .nil))
  ·
   refine w_block ?_
   refine wsr ?_
   refine cal_inv h fun y13 hy13 h => ?_
   refine oV (v_ix (l := a_more) rfl (fun _ _ h => h) rfl sl22 hy13) ?_
   refine oV (v_loadI ty9 rfl) ?_
   refine oV (v_assign rfl) ?_
   refine rnf ?_
   refine wsr ?_
   refine oV (v_move rfl) ?_
   refine oV (v_move rfl) ?_
   refine cal_inv h fun y14 hy14 h => ?_
   refine oT (t_call (slices_Contains_Lstring_string_w hy14) hT (.cons rfl appv_isv (.same rfl .nil)) .nil (fun R H' hR => ?_))
   obtain ⟨rfl, rfl⟩ := hR
   refine oV (v_not rfl) ?_
   refine rnf ?_
   refine w_condM h rfl (fun _ h => ?_) (fun _ h => ?_)
   ·
    refine w_region ?_
    refine oV (v_move rfl) ?_
    refine oV (v_move rfl) ?_
    refine oT (t_buildSlice (l := ([y13] : (List Str))) el22 (.cons rfl (fun _ _ h => h) .nil) rfl rfl ?_)
    refine asr_inv h fun q17 h => ?_
    refine oT (t_appC (l := q1.1) (m := ([y13] : (List Str))) ap22_22 rfl (fun _ _ h => h) rfl appv_isv .here q17 fun t16 => ?_)
    refine oV (v_assign rfl) ?_
    refine rl_nil ?_
    refine fin_block ?_
    exact hJ12 _ (t16) h _ (join_imp 12 rfl rfl (mod_cons (j := 0) rfl (fun _ _ h => h) mod_nil) (.cons .here .nil))
   ·
    refine w_skip ?_
    refine fin_block ?_
    exact hJ12 _ (g1) h _ (join_imp 7 rfl rfl (mod_cons (j := 0) rfl (fun _ _ h => h) mod_nil) (.cons .here .nil))
 ·
  refine w_exit ?_
  refine exi_nxt ?_
  refine eL2 _ _ ?_
  refine exi_block ?_
  refine fin_nxt ?_
  refine wsr ?_
  refine oV (v_move rfl) ?_
  refine oV (v_assign rfl) ?_
  refine rnf ?_
  refine w_ret ?_
  refine ret_post (.tmp rfl .nil) (.cons .here .nil) ?_
  obtain rfl := Option.some.inj h
  exact ⟨g1, rfl, rfl⟩


theorem refs_refers_c1_w : ∀ {a_n_ : GNode} {a_a1 : (List Str)} {b_a_a1 : Nat} {t_a_a11 : Tok} {r : (List Str)}, refs_refers_c1 a_n_ a_a1 = some r → Ctr Tryd.prog 49 [isv (a_n_), ptrv b_a_a1 (Fld.id (TList Str))] [boxE b_a_a1 ((TList.mk t_a_a11 a_a1) : (TList Str)), tokE t_a_a11] (fun R H => ∃ u1 : Tok, R = oneOf [] ∧ H = [boxE b_a_a1 ((TList.mk u1 r)), tokE u1]) := by
 intro a_n_ a_a1 b_a_a1 t_a_a11 r h
 unfold refs_refers_c1 at h
 refine spec_intro Tryd.func49 rfl (by decide +kernel) (by rfl) fun w0 S0 hT => ?_
 refine wsr ?_
 refine oT (t_boxIC (y := a_n_) rfl (fun _ _ h => h) ?_)
 refine rnf ?_
 refine wsr ?_
 refine oV (v_fi rfl GNode.f0 fd83_0 rfl (z := a_n_.kind)) ?_
 refine oV (v_loadI ty3 rfl) ?_
 refine oV (v_eql rfl rfl) ?_
 refine rnf ?_
 refine w_condM h rfl (fun _ h => ?_) (fun _ h => ?_)
 ·
  refine w_region ?_
  refine oT (t_loadC (R := appv t_a_a11 (a_a1)) ty22 rfl .here isvT1 ?_)
  refine oV (v_fi rfl GNode.f1 fd83_1 rfl (z := a_n_.name)) ?_
  refine oV (v_loadI ty9 rfl) ?_
  refine oT (t_buildSlice (l := ([a_n_.name] : (List Str))) el22 (.cons rfl (fun _ _ h => h) .nil) rfl rfl ?_)
  refine cal_inv h fun y3 hy3 h => ?_
  refine oT (t_call (refs_with_w hy3) hT (.same rfl (.cons rfl appv_isv .nil)) (.cons (.there .here) .nil) (fun R H' hR => ?_))
  obtain ⟨t4, rfl, rfl⟩ := hR
  refine oT (t_storeC (y' := ((TList.mk t4 y3) : (TList Str))) ty22 rfl rfl isvT2 (.there .here) rfl ?_)
  refine rl_nil ?_
  refine fin_post .nil (.cons .here (.cons .here .nil)) ?_
  obtain rfl := Option.some.inj h
  exact ⟨t4, rfl, rfl⟩
 ·
  refine w_skip ?_
  refine fin_post .nil (.cons .here (.cons .here .nil)) ?_
  obtain rfl := Option.some.inj h
  exact ⟨t_a_a11, rfl, rfl⟩


def refs_walk_C (f' : GMod → Int → (List Bool) → (List Str) → Option ((List Bool) × (List Str))) : Prop :=
 ∀ {a_m : GMod} {a_node : Int} {a_seen : (List Bool)} {a_do__0 : (List Str)} {v_a_seen : Vt} {b_a_do__0 : Nat} {t_a_do__01 : Tok} {r : (List Bool) × (List Str)}, f' a_m a_node a_seen a_do__0 = some r → Ctr Tryd.prog 48 [isv (a_m), isv (a_node), vecv v_a_seen (a_seen.length), clov 49 [ptrv b_a_do__0 (Fld.id (TList Str))]] [vecE v_a_seen (a_seen : List Bool), boxE b_a_do__0 ((TList.mk t_a_do__01 a_do__0) : (TList Str)), tokE t_a_do__01] (fun R H => ∃ u1 : Tok, R = oneOf [] ∧ H = [vecE v_a_seen (r.1), boxE b_a_do__0 ((TList.mk u1 r.2)), tokE u1])
theorem refs_walk_w0 {refs_walk' : GMod → Int → (List Bool) → (List Str) → Option ((List Bool) × (List Str))} (h_refs_walk : refs_walk_C refs_walk') : ∀ {a_m : GMod} {a_node : Int} {a_seen : (List Bool)} {a_do__0 : (List Str)} {v_a_seen : Vt} {b_a_do__0 : Nat} {t_a_do__01 : Tok} {r : (List Bool) × (List Str)}, refs_walk_F refs_walk' a_m a_node a_seen a_do__0 = some r → Ctr Tryd.prog 48 [isv (a_m), isv (a_node), vecv v_a_seen (a_seen.length), clov 49 [ptrv b_a_do__0 (Fld.id (TList Str))]] [vecE v_a_seen (a_seen : List Bool), boxE b_a_do__0 ((TList.mk t_a_do__01 a_do__0) : (TList Str)), tokE t_a_do__01] (fun R H => ∃ u1 : Tok, R = oneOf [] ∧ H = [vecE v_a_seen (r.1), boxE b_a_do__0 ((TList.mk u1 r.2)), tokE u1]) := by
 intro a_m a_node a_seen a_do__0 v_a_seen b_a_do__0 t_a_do__01 r h
 unfold refs_walk_F at h
 refine spec_intro Tryd.func48 rfl (by decide +kernel) (by rfl) fun w0 S0 hT => ?_
 refine wsr ?_
 refine oT (t_boxIC (y := a_m) rfl (fun _ _ h => h) ?_)
 refine rnf ?_
 refine w_seq ?_
 refine wsr ?_
 refine oV (v_move rfl) ?_
 refine oV (v_lss rfl rfl) ?_
 refine oV (v_move rfl) ?_
 refine rl_j (ι := Bool) (γ := Unit) (fun q2 g2 => [(19, isv (q2))]) (fun q2 g2 => []) .nil h 6 rfl (fun q2 g2 h => ?_) (fun J3 h hJ3 => ?_)
 ·
  refine oV (v_move rfl) ?_
  refine rl_j (ι := Bool) (γ := Unit) (fun q5 g5 => [(25, isv (q5))]) (fun q5 g5 => []) .nil h 5 rfl (fun q5 g5 h => ?_) (fun J6 h hJ6 => ?_)
  ·
   refine rnf ?_
   refine w_condM h rfl (fun _ h => ?_) (fun _ h => ?_)
   ·
    refine w_ret ?_
    refine ret_nxt ?_
    refine ret_post .nil (.cons .here (.cons .here (.cons .here .nil))) ?_
    obtain rfl := Option.some.inj h
    exact ⟨t_a_do__01, rfl, rfl⟩
   ·
    refine wkf ?_
    refine wsr ?_
    refine oV (v_move rfl) ?_
    refine oV (v_move rfl) ?_
    refine asd_inv h fun q10 h => ?_
    refine oV (v_vidx (α := Bool) sl88 rfl rfl q10.1 q10.2) ?_
    refine cal_inv h fun y11 hy11 h => ?_
    refine oT (t_vstore ty4 rfl rfl .here hy11 ?_)
    refine rnf ?_
    refine wsr ?_
    refine oV (v_fi rfl GMod.f4 fd26_4 rfl (z := a_m.nodes)) ?_
    refine oV (v_loadI ty24 rfl) ?_
    refine oV (v_move rfl) ?_
    refine cal_inv h fun y12 hy12 h => ?_
    refine oV (v_ix (l := a_m.nodes) rfl (fun _ _ h => h) rfl sl24 hy12) ?_
    refine oV (v_loadI ty83 rfl) ?_
    refine oT (t_alloc _ ze83 fun b13 => ?_)
    refine oT (t_storeC (y' := (y12 : GNode)) ty83 rfl rfl (fun _ _ h => h) .here rfl ?_)
    refine rl_upd (upd_imm 8 .here rfl) ?_
    refine rnf ?_
    refine wsr ?_
    refine oV (v_move rfl) ?_
    refine oV (v_loadI ty83 rfl) ?_
    refine cal_inv h fun y14 hy14 h => ?_
    refine oT (t_callC rfl (.same rfl .nil) (refs_refers_c1_w hy14) hT (.cons (.there .here) (.cons (.there .here) .nil)) (fun R H' hR => ?_))
    obtain ⟨t15, rfl, rfl⟩ := hR
    refine rnf ?_
    refine w_seq ?_
    refine wsr ?_
    refine oV (v_fi rfl GNode.f0 fd83_0 rfl (z := y12.kind)) ?_
    refine oV (v_loadI ty3 rfl) ?_
    refine oV (v_eql rfl rfl) ?_
    refine rnf ?_
    refine w_condM h rfl (fun _ h => ?_) (fun _ h => ?_)
    ·
     refine w_ret ?_
     refine ret_nxt ?_
     refine ret_post .nil (.cons (.there (.there .here)) (.cons .here (.cons .here .nil))) ?_
     obtain rfl := Option.some.inj h
     exact ⟨t15, rfl, rfl⟩
    ·
     refine wkf ?_
     refine w_seq ?_
     refine wsr ?_
     refine oV (v_fi rfl GNode.f5 fd83_5 rfl (z := y12.fields)) ?_
     refine oV (v_loadI ty81 rfl) ?_
     refine oV (v_ln (l := y12.fields) rfl (fun _ _ h => h) sl81) ?_
     refine oV (v_move rfl) ?_
     refine rnf ?_
     refine w_block ?_
     refine w_lp (ι := (List Bool) × Int × (List Str)) (γ := Tok) (fun q16 g16 => [(26, anyv), (43, isv (q16.2.1)), (2, vecv v_a_seen (q16.1.length))]) (fun q16 g16 => [vecE v_a_seen (q16.1 : List Bool), boxE b_a_do__0 ((TList.mk g16 q16.2.2) : (TList Str)), tokE g16]) h (t15) (mod_cons (j := 26) rfl (fun _ _ _ => trivial) (mod_cons (j := 43) rfl (fun _ _ h => h) (mod_cons (j := 2) rfl (vecvE (by first | rfl | simp)) mod_nil))) (.cons (.there (.there .here)) (.cons .here (.cons .here .nil))) (fun L17 q16 g16 Q36 h hL17 eL17 rL17 => ?_)
     refine wsr ?_
     refine oV (v_lss rfl rfl) ?_
     refine rnf ?_
     refine w_seq ?_
     refine w_condM h rfl (fun _ h => ?_) (fun _ h => ?_)
     ·
      refine wkf ?_
      refine w_seq ?_
      refine w_block ?_
      refine wsr ?_
      refine cal_inv h fun y27 hy27 h => ?_
      refine oV (v_ix (l := y12.fields) rfl (fun _ _ h => h) rfl sl81 hy27) ?_
      refine oV (v_loadI ty97 rfl) ?_
      refine oT (t_alloc _ ze97 fun b28 => ?_)
      refine oT (t_storeC (y' := (y27 : GFld)) ty97 rfl rfl (fun _ _ h => h) .here rfl ?_)
      refine rl_upd (upd_imm 10 .here rfl) ?_
      refine rnf ?_
      refine w_region ?_
      refine oV (v_loadI ty26 rfl) ?_
      refine oV (v_fi rfl GFld.f1 fd97_1 rfl (z := y27.ty)) ?_
      refine oV (v_loadI ty3 rfl) ?_
      refine oV (v_move rfl) ?_
      refine oV (v_move rfl) ?_
      refine cal_inv h fun y29 hy29 h => ?_
      refine oT (t_call (h_refs_walk hy29) hT (.same rfl (.same rfl (.cons rfl (fun _ _ h => vecvE (by first | rfl | simp) _ _ h) (.same rfl .nil)))) (.cons .here (.cons .here (.cons .here .nil))) (fun R H' hR => ?_))
      obtain ⟨t30, rfl, rfl⟩ := hR
      refine asd_inv h fun q31 h => ?_
      refine rl_upd (upd_slot 2 rfl (vecvE q31.symm)) ?_
      refine rl_upd (upd_slot 50 rfl (vecvE q31.symm)) ?_
      refine rl_nil ?_
      refine fin_block ?_
      refine fin_nxt ?_
      refine w_region ?_
      refine ck_inv h fun q32 h => ?_
      refine oV (v_add rfl rfl q32) ?_
      refine oV (v_move rfl) ?_
      refine rl_nil ?_
      exact hL17 _ (t30) h _ (join_imp 18 rfl rfl (mod_cons (j := 26) rfl (fun _ _ _ => trivial) (mod_cons (j := 43) rfl (fun _ _ h => h) (mod_cons (j := 2) rfl (vecvE (by first | rfl | simp)) mod_nil))) (.cons .here (.cons .here (.cons .here .nil))))
     ·
      refine w_exit ?_
      refine exi_nxt ?_
      refine eL17 _ _ ?_
      refine exi_block ?_
      refine fin_nxt ?_
      refine wsr ?_
      refine oV (v_fi rfl GNode.f0 fd83_0 rfl (z := y12.kind)) ?_
      refine oV (v_loadI ty3 rfl) ?_
      refine oV (v_eql rfl rfl) ?_
      refine rnf ?_
      refine w_condM h rfl (fun _ h => ?_) (fun _ h => ?_)
      ·
       refine w_region ?_
       refine oV (v_loadI ty26 rfl) ?_
       refine oV (v_fi rfl GNode.f8 fd83_8 rfl (z := y12.of)) ?_
       refine oV (v_loadI ty3 rfl) ?_
       refine oV (v_move rfl) ?_
       refine oV (v_move rfl) ?_
       refine cal_inv h fun y33 hy33 h => ?_
       refine oT (t_call (h_refs_walk hy33) hT (.same rfl (.same rfl (.cons rfl (fun _ _ h => vecvE (by first | rfl | simp) _ _ h) (.same rfl .nil)))) (.cons .here (.cons .here (.cons .here .nil))) (fun R H' hR => ?_))
       obtain ⟨t34, rfl, rfl⟩ := hR
       refine asd_inv h fun q35 h => ?_
       refine rl_upd (upd_slot 2 rfl (vecvE q35.symm)) ?_
       refine rl_upd (upd_slot 60 rfl (vecvE q35.symm)) ?_
       refine rl_nil ?_
       refine fin_post .nil (.cons .here (.cons .here (.cons .here .nil))) ?_
       obtain rfl := Option.some.inj h
       exact ⟨t34, rfl, rfl⟩
      ·
       refine w_skip ?_
       refine fin_post .nil (.cons .here (.cons .here (.cons .here .nil))) ?_
       obtain rfl := Option.some.inj h
       exact ⟨g16, rfl, rfl⟩
  ·
   refine rl_condM (j := 20) h rfl (fun g7 h => ?_) (fun g7 h => ?_)
   ·
    refine op_pass rfl (dj := 20) rfl g7 ?_
    refine op_pass rfl (dj := 20) rfl g7 ?_
    refine op_pass rfl (dj := 20) rfl g7 ?_
    refine op_pass rfl (dj := 20) rfl g7 ?_
    refine oV (v_pick_t rfl g7 rfl) ?_
    exact hJ6 _ () h _ (join_imp 5 rfl rfl (mod_cons (j := 25) rfl (fun _ _ h => h) mod_nil) (.cons .here (.cons .here (.cons .here .nil))))
   ·
    refine op_take rfl rfl (dj := 20) rfl g7 (OpV.t (v_move rfl) ?_)
    refine op_take rfl rfl (dj := 20) rfl g7 (OpV.t (v_move rfl) ?_)
    refine asd_inv h fun q8 h => ?_
    refine op_take rfl rfl (dj := 20) rfl g7 (OpV.t (v_vidx (α := Bool) sl88 rfl rfl q8.1 q8.2) ?_)
    refine cal_inv h fun y9 hy9 h => ?_
    refine op_take rfl rfl (dj := 20) rfl g7 (t_vload ty4 rfl .here hy9 ?_)
    refine oV (v_pick_f rfl g7 rfl) ?_
    exact hJ6 _ () h _ (join_imp 5 rfl rfl (mod_cons (j := 25) rfl (fun _ _ h => h) mod_nil) (.cons .here (.cons .here (.cons .here .nil))))
 ·
  refine rl_condM (j := 13) h rfl (fun g4 h => ?_) (fun g4 h => ?_)
  ·
   refine op_pass rfl (dj := 13) rfl g4 ?_
   refine op_pass rfl (dj := 13) rfl g4 ?_
   refine op_pass rfl (dj := 13) rfl g4 ?_
   refine op_pass rfl (dj := 13) rfl g4 ?_
   refine op_pass rfl (dj := 13) rfl g4 ?_
   refine oV (v_pick_t rfl g4 rfl) ?_
   exact hJ3 _ () h _ (join_imp 6 rfl rfl (mod_cons (j := 19) rfl (fun _ _ h => h) mod_nil) (.cons .here (.cons .here (.cons .here .nil))))
  ·
   refine op_take rfl rfl (dj := 13) rfl g4 (OpV.t (v_move rfl) ?_)
   refine op_take rfl rfl (dj := 13) rfl g4 (OpV.t (v_fi rfl GMod.f4 fd26_4 rfl (z := a_m.nodes)) ?_)
   refine op_take rfl rfl (dj := 13) rfl g4 (OpV.t (v_loadI ty24 rfl) ?_)
   refine op_take rfl rfl (dj := 13) rfl g4 (OpV.t (v_ln (l := a_m.nodes) rfl (fun _ _ h => h) sl24) ?_)
   refine op_take rfl rfl (dj := 13) rfl g4 (OpV.t (v_geq rfl rfl) ?_)
   refine oV (v_pick_f rfl g4 rfl) ?_
   exact hJ3 _ () h _ (join_imp 6 rfl rfl (mod_cons (j := 19) rfl (fun _ _ h => h) mod_nil) (.cons .here (.cons .here (.cons .here .nil))))

theorem refs_walk_grp_w : ∀ n, refs_walk_C (refs_walk n)
 | 0 => fun h => (by cases h)
 | n + 1 => refs_walk_w0 (refs_walk_grp_w n)
theorem refs_walk_w (n : Nat) : refs_walk_C (refs_walk n) := (refs_walk_grp_w n)

theorem refs_refers_w : ∀ {a_m : GMod} {a_node : Int} {r : (List Str)}, refs_refers a_m a_node = some r → Ctr Tryd.prog 37 [isv (a_m), isv (a_node)] [] (fun R H => R = oneOf [isv (r)] ∧ H = []) := by
 intro a_m a_node r h
 unfold refs_refers at h
 refine spec_intro Tryd.func37 rfl (by decide +kernel) (by rfl) fun w0 S0 hT => ?_
 refine wsr ?_
 refine oT (t_boxIC (y := a_m) rfl (fun _ _ h => h) ?_)
 refine oV (v_assign rfl) ?_
 refine rnf ?_
 refine wsr ?_
 refine oT (t_alloc _ zt22_2 fun b1 => ?_)
 refine rl_upd (upd_tok) ?_
 refine rnf ?_
 refine w_seq ?_
 refine w_regionD (.v 0 (.v 1 (.v 2 (.v 3 (.v 4 (.v 6 (.t 5 (.t 7 .nil)))))))) moOrd (by kernel_rfl) ?_
 refine rd_v rfl (v_loadI ty26 rfl) ?_
 refine rd_v rfl (v_move rfl) ?_
 refine rd_v rfl (v_fi rfl GMod.f4 fd26_4 rfl (z := a_m.nodes)) ?_
 refine rd_v rfl (v_loadI ty24 rfl) ?_
 refine rd_v rfl (v_ln (l := a_m.nodes) rfl (fun _ _ h => h) sl24) ?_
 refine rd_v rfl (v_makeFunc (.same rfl .nil)) ?_
 refine asd_inv h fun q3 h => ?_
 refine rd_t rfl rfl (t_makeVec el88 ze4 Tryd.underlying88 rfl rfl q3.1 rfl q3.2 fun v4 => ?_)
 refine cal_inv h fun y5 hy5 h => ?_
 refine rd_t rfl rfl (t_call (refs_walk_w fuel hy5) hT (.same rfl (.same rfl (.cons rfl (fun _ _ h => vecvE (by first | rfl | simp) _ _ h) (.same rfl .nil)))) (.cons .here (.cons (.there .here) (.cons .here .nil))) (fun R H' hR => ?_))
 obtain ⟨t6, rfl, rfl⟩ := hR
 refine asd_inv h fun q7 h => ?_
 refine rd_upd (upd_slot 11 rfl (vecvE q7.symm)) ?_
 refine rd_nil ?_
 refine fin_nxt ?_
 refine wsr ?_
 refine oT (t_loadC (R := appv t6 (y5.2)) ty22 rfl (.there .here) isvT1 ?_)
 refine oV (v_assign rfl) ?_
 refine rnf ?_
 refine w_ret ?_
 refine ret_post (.as rfl appv_isv .nil) .nil ?_
 obtain rfl := Option.some.inj h
 exact ⟨rfl, rfl⟩


theorem refs_Find_w : ∀ {a_m : GMod} {a_name : Str} {r : Int}, refs_Find a_m a_name = some r → Ctr Tryd.prog 12 [isv (a_m), isv (a_name)] [] (fun R H => R = oneOf [isv (r)] ∧ H = []) := by
 intro a_m a_name r h
 unfold refs_Find at h
 refine spec_intro Tryd.func12 rfl (by decide +kernel) (by rfl) fun w0 S0 hT => ?_
 refine wsr ?_
 refine oT (t_boxIC (y := a_m) rfl (fun _ _ h => h) ?_)
 refine oV (v_assign rfl) ?_
 refine rnf ?_
 refine wsr ?_
 refine oV (v_fi rfl GMod.f2 fd26_2 rfl (z := a_m.names)) ?_
 refine oV (v_loadI ty22 rfl) ?_
 refine oV (v_move rfl) ?_
 refine cal_inv h fun y1 hy1 h => ?_
 refine oT (t_call (slices_Index_Lstring_string_w hy1) hT (.same rfl (.same rfl .nil)) .nil (fun R H' hR => ?_))
 obtain ⟨rfl, rfl⟩ := hR
 refine oV (v_assign rfl) ?_
 refine rnf ?_
 refine w_ret ?_
 refine ret_post (.tmp rfl .nil) .nil ?_
 obtain rfl := Option.some.inj h
 exact ⟨rfl, rfl⟩


theorem refs_Uses_w : ∀ {a_m : GMod} {a_node : Int} {r : (List Int)}, refs_Uses a_m a_node = some r → Ctr Tryd.prog 15 [isv (a_m), isv (a_node)] [] (fun R H => R = oneOf [isv (r)] ∧ H = []) := by
 intro a_m a_node r h
 unfold refs_Uses at h
 refine spec_intro Tryd.func15 rfl (by decide +kernel) (by rfl) fun w0 S0 hT => ?_
 refine wsr ?_
 refine oT (t_boxIC (y := a_m) rfl (fun _ _ h => h) ?_)
 refine oV (v_assign rfl) ?_
 refine rnf ?_
 refine wsr ?_
 refine oV (v_assign rfl) ?_
 refine rnf ?_
 refine w_seq ?_
 refine wsr ?_
 refine oV (v_loadI ty26 rfl) ?_
 refine oV (v_move rfl) ?_
 refine cal_inv h fun y1 hy1 h => ?_
 refine oT (t_call (refs_refers_w hy1) hT (.same rfl (.same rfl .nil)) .nil (fun R H' hR => ?_))
 obtain ⟨rfl, rfl⟩ := hR
 refine oV (v_ln (l := y1) rfl (fun _ _ h => h) sl22) ?_
 refine oV (v_move rfl) ?_
 refine rnf ?_
 refine w_block ?_
 refine w_upd (upd_tok) ?_
 refine w_lp (ι := (List Int) × Int) (γ := Tok) (fun q2 g2 => [(5, appv g2 (q2.1)), (13, isv (q2.2))]) (fun q2 g2 => [tokE g2]) h (none) (mod_cons (j := 5) rfl nilv_appv (mod_cons (j := 13) rfl (fun _ _ h => h) mod_nil)) (.cons .here .nil) (fun L3 q2 g2 Q22 h hL3 eL3 rL3 => ?_)
 refine wsr ?_
 refine oV (v_lss rfl rfl) ?_
 refine rnf ?_
 refine w_seq ?_
 refine w_condM h rfl (fun _ h => ?_) (fun _ h => ?_)
 ·
  refine wkf ?_
  refine w_seq ?_
  refine w_J (ι := (List Int)) (γ := Tok) (fun q13 g13 => [(5, appv g13 (q13))]) (fun q13 g13 => [tokE g13]) (.cons .here .nil) h (fun q13 g13 h => ?_) (fun J14 h hJ14 => ?_)
  ·
   refine w_region ?_
   refine ck_inv h fun q20 h => ?_
   refine oV (v_add rfl rfl q20) ?_
   refine oV (v_move rfl) ?_
   refine rl_nil ?_
   exact hL3 _ (g13) h _ (join_imp 6 rfl rfl (mod_cons (j := 5) rfl (fun _ _ h => h) (mod_cons (j := 13) rfl (fun _ _ h => h) mod_nil)) (.cons .here .nil))
  ·
   refine w_block ?_
   refine wsr ?_
   refine cal_inv h fun y15 hy15 h => ?_
   refine oV (v_ix (l := y1) rfl (fun _ _ h => h) rfl sl22 hy15) ?_
   refine oV (v_loadI ty9 rfl) ?_
   refine oV (v_assign rfl) ?_
   refine rnf ?_
   refine wsr ?_
   refine oV (v_loadI ty26 rfl) ?_
   refine oV (v_move rfl) ?_
   refine cal_inv h fun y16 hy16 h => ?_
   refine oT (t_call (refs_Find_w hy16) hT (.same rfl (.same rfl .nil)) .nil (fun R H' hR => ?_))
   obtain ⟨rfl, rfl⟩ := hR
   refine oV (v_assign rfl) ?_
   refine rnf ?_
   refine wsr ?_
   refine oV (v_move rfl) ?_
   refine oV (v_geq rfl rfl) ?_
   refine rnf ?_
   refine w_condM h rfl (fun _ h => ?_) (fun _ h => ?_)
   ·
    refine w_region ?_
    refine oV (v_move rfl) ?_
    refine oV (v_move rfl) ?_
    refine oT (t_buildSlice (l := ([y16] : (List Int))) el23 (.cons rfl (fun _ _ h => h) .nil) rfl rfl ?_)
    refine asr_inv h fun q19 h => ?_
    refine oT (t_appC (l := q2.1) (m := ([y16] : (List Int))) ap23_23 rfl (fun _ _ h => h) rfl appv_isv .here q19 fun t18 => ?_)
    refine oV (v_assign rfl) ?_
    refine rl_nil ?_
    refine fin_block ?_
    exact hJ14 _ (t18) h _ (join_imp 14 rfl rfl (mod_cons (j := 5) rfl (fun _ _ h => h) mod_nil) (.cons .here .nil))
   ·
    refine w_skip ?_
    refine fin_block ?_
    exact hJ14 _ (g2) h _ (join_imp 9 rfl rfl (mod_cons (j := 5) rfl (fun _ _ h => h) mod_nil) (.cons .here .nil))
 ·
  refine w_exit ?_
  refine exi_nxt ?_
  refine eL3 _ _ ?_
  refine exi_block ?_
  refine fin_nxt ?_
  refine wsr ?_
  refine oV (v_move rfl) ?_
  refine oV (v_assign rfl) ?_
  refine rnf ?_
  refine w_ret ?_
  refine ret_post (.as rfl appv_isv .nil) .nil ?_
  obtain rfl := Option.some.inj h
  exact ⟨rfl, rfl⟩


theorem refs_lost_c1_w : ∀ {a_s : Str} {a_a1 : GMod} {r : Bool}, refs_lost_c1 a_s a_a1 = some r → Ctr Tryd.prog 66 [isv (a_s), immv (a_a1)] [] (fun R H => R = oneOf [isv (r)] ∧ H = []) := by
 intro a_s a_a1 r h
 unfold refs_lost_c1 at h
 refine spec_intro Tryd.func66 rfl (by decide +kernel) (by rfl) fun w0 S0 hT => ?_
 refine wsr ?_
 refine oV (v_assign rfl) ?_
 refine rnf ?_
 refine wsr ?_
 refine oV (v_loadI ty26 rfl) ?_
 refine oV (v_move rfl) ?_
 refine cal_inv h fun y1 hy1 h => ?_
 refine oT (t_call (refs_Find_w hy1) hT (.same rfl (.same rfl .nil)) .nil (fun R H' hR => ?_))
 obtain ⟨rfl, rfl⟩ := hR
 refine oV (v_lss rfl rfl) ?_
 refine oV (v_assign rfl) ?_
 refine rnf ?_
 refine w_ret ?_
 refine ret_post (.tmp rfl .nil) .nil ?_
 obtain rfl := Option.some.inj h
 exact ⟨rfl, rfl⟩


theorem slices_IndexFunc_Lstring_string_w : ∀ {a_s : (List Str)} {a_f_0 : GMod} {r : Int}, slices_IndexFunc_Lstring_string a_s a_f_0 = some r → Ctr Tryd.prog 71 [isv (a_s), clov 66 [immv (a_f_0)]] [] (fun R H => R = oneOf [isv (r)] ∧ H = []) := by
 intro a_s a_f_0 r h
 unfold slices_IndexFunc_Lstring_string at h
 refine spec_intro Tryd.func71 rfl (by decide +kernel) (by rfl) fun w0 S0 hT => ?_
 refine wsr ?_
 refine oV (v_assign rfl) ?_
 refine rnf ?_
 refine w_seq ?_
 refine wsr ?_
 refine oV (v_move rfl) ?_
 refine oV (v_ln (l := a_s) rfl (fun _ _ h => h) sl22) ?_
 refine oV (v_move rfl) ?_
 refine rnf ?_
 refine w_block ?_
 refine w_lp (ι := Int) (γ := Unit) (fun q1 g1 => [(8, isv (q1))]) (fun q1 g1 => []) h () (mod_cons (j := 8) rfl (fun _ _ h => h) mod_nil) .nil (fun L2 q1 g1 Q9 h hL2 eL2 rL2 => ?_)
 refine wsr ?_
 refine oV (v_lss rfl rfl) ?_
 refine rnf ?_
 refine w_seq ?_
 refine w_condM h rfl (fun _ h => ?_) (fun _ h => ?_)
 ·
  refine wkf ?_
  refine w_seq ?_
  refine w_block ?_
  refine wsr ?_
  refine oV (v_move rfl) ?_
  refine oV (v_assign rfl) ?_
  refine rnf ?_
  refine wsr ?_
  refine oV (v_move rfl) ?_
  refine oV (v_move rfl) ?_
  refine oV (v_move rfl) ?_
  refine cal_inv h fun y6 hy6 h => ?_
  refine oV (v_ix (l := a_s) rfl (fun _ _ h => h) rfl sl22 hy6) ?_
  refine oV (v_loadI ty9 rfl) ?_
  refine cal_inv h fun y7 hy7 h => ?_
  refine oT (t_callC rfl (.same rfl .nil) (refs_lost_c1_w hy7) hT .nil (fun R H' hR => ?_))
  obtain ⟨rfl, rfl⟩ := hR
  refine rnf ?_
  refine w_condM h rfl (fun _ h => ?_) (fun _ h => ?_)
  ·
   refine wsr ?_
   refine oV (v_move rfl) ?_
   refine oV (v_assign rfl) ?_
   refine rnf ?_
   refine w_ret ?_
   refine ret_block ?_
   refine ret_nxt ?_
   refine rL2 _ ?_
   refine ret_block ?_
   refine ret_nxt ?_
   refine ret_post (.tmp rfl .nil) .nil ?_
   obtain rfl := Option.some.inj h
   exact ⟨rfl, rfl⟩
  ·
   refine w_skip ?_
   refine fin_block ?_
   refine fin_nxt ?_
   refine w_region ?_
   refine ck_inv h fun q8 h => ?_
   refine oV (v_add rfl rfl q8) ?_
   refine oV (v_move rfl) ?_
   refine rl_nil ?_
   exact hL2 _ () h _ (join_imp 12 rfl rfl (mod_cons (j := 8) rfl (fun _ _ h => h) mod_nil) .nil)
 ·
  refine w_exit ?_
  refine exi_nxt ?_
  refine eL2 _ _ ?_
  refine exi_block ?_
  refine fin_nxt ?_
  refine wsr ?_
  refine oV (v_assign rfl) ?_
  refine rnf ?_
  refine w_ret ?_
  refine ret_post (.tmp rfl .nil) .nil ?_
  obtain rfl := Option.some.inj h
  exact ⟨rfl, rfl⟩


theorem slices_ContainsFunc_Lstring_string_w : ∀ {a_s : (List Str)} {a_f_0 : GMod} {r : Bool}, slices_ContainsFunc_Lstring_string a_s a_f_0 = some r → Ctr Tryd.prog 65 [isv (a_s), clov 66 [immv (a_f_0)]] [] (fun R H => R = oneOf [isv (r)] ∧ H = []) := by
 intro a_s a_f_0 r h
 unfold slices_ContainsFunc_Lstring_string at h
 refine spec_intro Tryd.func65 rfl (by decide +kernel) (by rfl) fun w0 S0 hT => ?_
 refine wsr ?_
 refine oV (v_assign rfl) ?_
 refine rnf ?_
 refine wsr ?_
 refine oV (v_move rfl) ?_
 refine oV (v_move rfl) ?_
 refine cal_inv h fun y1 hy1 h => ?_
 refine oT (t_call (slices_IndexFunc_Lstring_string_w hy1) hT (.same rfl (.same rfl .nil)) .nil (fun R H' hR => ?_))
 obtain ⟨rfl, rfl⟩ := hR
 refine oV (v_geq rfl rfl) ?_
 refine oV (v_assign rfl) ?_
 refine rnf ?_
 refine w_ret ?_
 refine ret_post (.tmp rfl .nil) .nil ?_
 obtain rfl := Option.some.inj h
 exact ⟨rfl, rfl⟩


theorem refs_lost_w : ∀ {a_m : GMod} {a_node : Int} {r : Bool}, refs_lost a_m a_node = some r → Ctr Tryd.prog 44 [isv (a_m), isv (a_node)] [] (fun R H => R = oneOf [isv (r)] ∧ H = []) := by
 intro a_m a_node r h
 unfold refs_lost at h
 refine spec_intro Tryd.func44 rfl (by decide +kernel) (by rfl) fun w0 S0 hT => ?_
 refine wsr ?_
 refine oT (t_boxIC (y := a_m) rfl (fun _ _ h => h) ?_)
 refine oV (v_assign rfl) ?_
 refine rnf ?_
 refine wsr ?_
 refine oV (v_loadI ty26 rfl) ?_
 refine oV (v_move rfl) ?_
 refine cal_inv h fun y1 hy1 h => ?_
 refine oT (t_call (refs_refers_w hy1) hT (.same rfl (.same rfl .nil)) .nil (fun R H' hR => ?_))
 obtain ⟨rfl, rfl⟩ := hR
 refine oV (v_makeFunc (.same rfl .nil)) ?_
 refine cal_inv h fun y2 hy2 h => ?_
 refine oT (t_call (slices_ContainsFunc_Lstring_string_w hy2) hT (.same rfl (.same rfl .nil)) .nil (fun R H' hR => ?_))
 obtain ⟨rfl, rfl⟩ := hR
 refine oV (v_assign rfl) ?_
 refine rnf ?_
 refine w_ret ?_
 refine ret_post (.tmp rfl .nil) .nil ?_
 obtain rfl := Option.some.inj h
 exact ⟨rfl, rfl⟩


def refs_reaches_C (f' : (List (List Int)) → Int → (List Bool) → Option ((List Bool))) : Prop :=
 ∀ {a_uses : (List (List Int))} {a_at_ : Int} {a_seen : (List Bool)} {v_a_seen : Vt} {r : (List Bool)}, f' a_uses a_at_ a_seen = some r → Ctr Tryd.prog 45 [isv (a_uses), isv (a_at_), vecv v_a_seen (a_seen.length)] [vecE v_a_seen (a_seen : List Bool)] (fun R H => R = oneOf [] ∧ H = [vecE v_a_seen (r)])
theorem refs_reaches_w0 {refs_reaches' : (List (List Int)) → Int → (List Bool) → Option ((List Bool))} (h_refs_reaches : refs_reaches_C refs_reaches') : ∀ {a_uses : (List (List Int))} {a_at_ : Int} {a_seen : (List Bool)} {v_a_seen : Vt} {r : (List Bool)}, refs_reaches_F refs_reaches' a_uses a_at_ a_seen = some r → Ctr Tryd.prog 45 [isv (a_uses), isv (a_at_), vecv v_a_seen (a_seen.length)] [vecE v_a_seen (a_seen : List Bool)] (fun R H => R = oneOf [] ∧ H = [vecE v_a_seen (r)]) := by
 intro a_uses a_at_ a_seen v_a_seen r h
 unfold refs_reaches_F at h
 refine spec_intro Tryd.func45 rfl (by decide +kernel) (by rfl) fun w0 S0 hT => ?_
 refine wsr ?_
 refine oV (v_move rfl) ?_
 refine oV (v_move rfl) ?_
 refine cal_inv h fun y1 hy1 h => ?_
 refine oV (v_ix (l := a_uses) rfl (fun _ _ h => h) rfl sl57 hy1) ?_
 refine oV (v_loadI ty23 rfl) ?_
 refine oV (v_ln (l := y1) rfl (fun _ _ h => h) sl23) ?_
 refine oV (v_move rfl) ?_
 refine rnf ?_
 refine w_block ?_
 refine w_lp (ι := (List Bool) × Int) (γ := Unit) (fun q2 g2 => [(13, isv (q2.2)), (2, vecv v_a_seen (q2.1.length))]) (fun q2 g2 => [vecE v_a_seen (q2.1 : List Bool)]) h () (mod_cons (j := 13) rfl (fun _ _ h => h) (mod_cons (j := 2) rfl (vecvE (by first | rfl | simp)) mod_nil)) (.cons .here .nil) (fun L3 q2 g2 Q24 h hL3 eL3 rL3 => ?_)
 refine wsr ?_
 refine oV (v_lss rfl rfl) ?_
 refine rnf ?_
 refine w_seq ?_
 refine w_condM h rfl (fun _ h => ?_) (fun _ h => ?_)
 ·
  refine wkf ?_
  refine w_seq ?_
  refine w_J (ι := (List Bool)) (γ := Unit) (fun q14 g14 => [(2, vecv v_a_seen (q14.length))]) (fun q14 g14 => [vecE v_a_seen (q14 : List Bool)]) (.cons .here .nil) h (fun q14 g14 h => ?_) (fun J15 h hJ15 => ?_)
  ·
   refine w_region ?_
   refine ck_inv h fun q23 h => ?_
   refine oV (v_add rfl rfl q23) ?_
   refine oV (v_move rfl) ?_
   refine rl_nil ?_
   exact hL3 _ () h _ (join_imp 6 rfl rfl (mod_cons (j := 13) rfl (fun _ _ h => h) (mod_cons (j := 2) rfl (vecvE (by first | rfl | simp)) mod_nil)) (.cons .here .nil))
  ·
   refine w_block ?_
   refine wsr ?_
   refine cal_inv h fun y16 hy16 h => ?_
   refine oV (v_ix (l := y1) rfl (fun _ _ h => h) rfl sl23 hy16) ?_
   refine oV (v_loadI ty3 rfl) ?_
   refine oV (v_assign rfl) ?_
   refine rnf ?_
   refine wsr ?_
   refine oV (v_move rfl) ?_
   refine oV (v_move rfl) ?_
   refine asd_inv h fun q17 h => ?_
   refine oV (v_vidx (α := Bool) sl88 rfl rfl q17.1 q17.2) ?_
   refine cal_inv h fun y18 hy18 h => ?_
   refine oT (t_vload ty4 rfl .here hy18 ?_)
   refine oV (v_not rfl) ?_
   refine rnf ?_
   refine w_condM h rfl (fun _ h => ?_) (fun _ h => ?_)
   ·
    refine wsr ?_
    refine oV (v_move rfl) ?_
    refine oV (v_move rfl) ?_
    refine asd_inv h fun q19 h => ?_
    refine oV (v_vidx (α := Bool) sl88 rfl rfl q19.1 q19.2) ?_
    refine cal_inv h fun y20 hy20 h => ?_
    refine oT (t_vstore ty4 rfl rfl .here hy20 ?_)
    refine rnf ?_
    refine w_region ?_
    refine oV (v_move rfl) ?_
    refine oV (v_move rfl) ?_
    refine oV (v_move rfl) ?_
    refine cal_inv h fun y21 hy21 h => ?_
    refine oT (t_call (h_refs_reaches hy21) hT (.same rfl (.same rfl (.cons rfl (fun _ _ h => vecvE (by first | rfl | simp) _ _ h) .nil))) (.cons .here .nil) (fun R H' hR => ?_))
    obtain ⟨rfl, rfl⟩ := hR
    refine asd_inv h fun q22 h => ?_
    refine rl_upd (upd_slot 2 rfl (vecvE q22.symm)) ?_
    refine rl_upd (upd_slot 17 rfl (vecvE q22.symm)) ?_
    refine rl_upd (upd_slot 22 rfl (vecvE q22.symm)) ?_
    refine rl_upd (upd_slot 27 rfl (vecvE q22.symm)) ?_
    refine rl_nil ?_
    refine fin_block ?_
    exact hJ15 _ () h _ (join_imp 19 rfl rfl (mod_cons (j := 2) rfl (vecvE (by first | rfl | simp)) mod_nil) (.cons .here .nil))
   ·
    refine w_skip ?_
    refine fin_block ?_
    exact hJ15 _ () h _ (join_imp 8 rfl rfl (mod_cons (j := 2) rfl (vecvE (by first | rfl | simp)) mod_nil) (.cons .here .nil))
 ·
  refine w_exit ?_
  refine exi_nxt ?_
  refine eL3 _ _ ?_
  refine exi_block ?_
  refine fin_post .nil (.cons .here .nil) ?_
  obtain rfl := Option.some.inj h
  exact ⟨rfl, rfl⟩

theorem refs_reaches_grp_w : ∀ n, refs_reaches_C (refs_reaches n)
 | 0 => fun h => (by cases h)
 | n + 1 => refs_reaches_w0 (refs_reaches_grp_w n)
theorem refs_reaches_w (n : Nat) : refs_reaches_C (refs_reaches n) := (refs_reaches_grp_w n)

theorem refs_wrong_w : ∀ {a_m : GMod} {a_uses : (List (List Int))} {r : Int × Int}, refs_wrong a_m a_uses = some r → Ctr Tryd.prog 27 [isv (a_m), isv (a_uses)] [] (fun R H => R = oneOf [isv (r.1), isv (r.2)] ∧ H = []) := by
 intro a_m a_uses r h
 unfold refs_wrong at h
 refine spec_intro Tryd.func27 rfl (by decide +kernel) (by rfl) fun w0 S0 hT => ?_
 refine wsr ?_
 refine oT (t_boxIC (y := a_m) rfl (fun _ _ h => h) ?_)
 refine oV (v_assign rfl) ?_
 refine oV (v_assign rfl) ?_
 refine rnf ?_
 refine w_seq ?_
 refine wsr ?_
 refine oV (v_fi rfl GMod.f2 fd26_2 rfl (z := a_m.names)) ?_
 refine oV (v_loadI ty22 rfl) ?_
 refine oV (v_ln (l := a_m.names) rfl (fun _ _ h => h) sl22) ?_
 refine oV (v_move rfl) ?_
 refine rnf ?_
 refine w_block ?_
 refine w_lp (ι := Int) (γ := Unit) (fun q1 g1 => [(14, isv (q1))]) (fun q1 g1 => []) h () (mod_cons (j := 14) rfl (fun _ _ h => h) mod_nil) .nil (fun L2 q1 g1 Q95 h hL2 eL2 rL2 => ?_)
 refine wsr ?_
 refine oV (v_lss rfl rfl) ?_
 refine rnf ?_
 refine w_seq ?_
 refine w_condM h rfl (fun _ h => ?_) (fun _ h => ?_)
 ·
  refine wkf ?_
  refine w_seq ?_
  refine w_block ?_
  refine wsr ?_
  refine oV (v_move rfl) ?_
  refine cal_inv h fun y49 hy49 h => ?_
  refine oV (v_ix (l := a_m.names) rfl (fun _ _ h => h) rfl sl22 hy49) ?_
  refine oV (v_loadI ty9 rfl) ?_
  refine oV (v_assign rfl) ?_
  refine oV (v_assign rfl) ?_
  refine rnf ?_
  refine wsr ?_
  refine oV (v_loadI ty26 rfl) ?_
  refine oV (v_move rfl) ?_
  refine cal_inv h fun y50 hy50 h => ?_
  refine oT (t_call (refs_Find_w hy50) hT (.same rfl (.same rfl .nil)) .nil (fun R H' hR => ?_))
  obtain ⟨rfl, rfl⟩ := hR
  refine oV (v_move rfl) ?_
  refine oV (v_lss rfl rfl) ?_
  refine rnf ?_
  refine w_condM h rfl (fun _ h => ?_) (fun _ h => ?_)
  ·
   refine wsr ?_
   refine oV (v_move rfl) ?_
   refine oV (v_assign rfl) ?_
   refine oV (v_assign rfl) ?_
   refine rnf ?_
   refine w_ret ?_
   refine ret_block ?_
   refine ret_nxt ?_
   refine rL2 _ ?_
   refine ret_block ?_
   refine ret_nxt ?_
   refine ret_post (.tmp rfl (.tmp rfl .nil)) .nil ?_
   obtain rfl := Option.some.inj h
   exact ⟨rfl, rfl⟩
  ·
   refine w_skip ?_
   refine fin_block ?_
   refine fin_nxt ?_
   refine w_region ?_
   refine ck_inv h fun q51 h => ?_
   refine oV (v_add rfl rfl q51) ?_
   refine oV (v_move rfl) ?_
   refine rl_nil ?_
   exact hL2 _ () h _ (join_imp 14 rfl rfl (mod_cons (j := 14) rfl (fun _ _ h => h) mod_nil) .nil)
 ·
  refine w_exit ?_
  refine exi_nxt ?_
  refine eL2 _ _ ?_
  refine exi_block ?_
  refine fin_nxt ?_
  refine w_seq ?_
  refine wsr ?_
  refine oV (v_fi rfl GMod.f2 fd26_2 rfl (z := a_m.names)) ?_
  refine oV (v_loadI ty22 rfl) ?_
  refine oV (v_ln (l := a_m.names) rfl (fun _ _ h => h) sl22) ?_
  refine oV (v_move rfl) ?_
  refine rnf ?_
  refine w_block ?_
  refine w_lp (ι := Int) (γ := Unit) (fun q52 g52 => [(29, isv (q52))]) (fun q52 g52 => []) h () (mod_cons (j := 29) rfl (fun _ _ h => h) mod_nil) .nil (fun L53 q52 g52 Q94 h hL53 eL53 rL53 => ?_)
  refine wsr ?_
  refine oV (v_lss rfl rfl) ?_
  refine rnf ?_
  refine w_seq ?_
  refine w_condM h rfl (fun _ h => ?_) (fun _ h => ?_)
  ·
   refine wkf ?_
   refine w_seq ?_
   refine w_block ?_
   refine wsr ?_
   refine oV (v_move rfl) ?_
   refine oV (v_assign rfl) ?_
   refine rnf ?_
   refine w_seq ?_
   refine w_regionD (.v 0 (.v 1 (.v 2 (.t 3 (.t 4 .nil))))) moOrd (by kernel_rfl) ?_
   refine rd_v rfl (v_loadI ty26 rfl) ?_
   refine rd_v rfl (v_loadI ty26 rfl) ?_
   refine rd_v rfl (v_move rfl) ?_
   refine cal_inv h fun y74 hy74 h => ?_
   refine rd_t rfl rfl (t_call (refs_of_w hy74) hT (.same rfl (.same rfl .nil)) .nil (fun R H' hR => ?_))
   obtain ⟨rfl, rfl⟩ := hR
   refine cal_inv h fun y75 hy75 h => ?_
   refine rd_t rfl rfl (t_call (refs_lost_w hy75) hT (.same rfl (.same rfl .nil)) .nil (fun R H' hR => ?_))
   obtain ⟨rfl, rfl⟩ := hR
   refine rd_nil ?_
   refine fin_nxt ?_
   refine w_condM h rfl (fun _ h => ?_) (fun _ h => ?_)
   ·
    refine wsr ?_
    refine oV (v_move rfl) ?_
    refine oV (v_assign rfl) ?_
    refine oV (v_assign rfl) ?_
    refine rnf ?_
    refine w_ret ?_
    refine ret_block ?_
    refine ret_nxt ?_
    refine rL53 _ ?_
    refine ret_block ?_
    refine ret_nxt ?_
    refine ret_post (.tmp rfl (.tmp rfl .nil)) .nil ?_
    obtain rfl := Option.some.inj h
    exact ⟨rfl, rfl⟩
   ·
    refine w_skip ?_
    refine fin_block ?_
    refine fin_nxt ?_
    refine w_region ?_
    refine ck_inv h fun q76 h => ?_
    refine oV (v_add rfl rfl q76) ?_
    refine oV (v_move rfl) ?_
    refine rl_nil ?_
    exact hL53 _ () h _ (join_imp 11 rfl rfl (mod_cons (j := 29) rfl (fun _ _ h => h) mod_nil) .nil)
  ·
   refine w_exit ?_
   refine exi_nxt ?_
   refine eL53 _ _ ?_
   refine exi_block ?_
   refine fin_nxt ?_
   refine w_seq ?_
   refine wsr ?_
   refine oV (v_fi rfl GMod.f2 fd26_2 rfl (z := a_m.names)) ?_
   refine oV (v_loadI ty22 rfl) ?_
   refine oV (v_ln (l := a_m.names) rfl (fun _ _ h => h) sl22) ?_
   refine oV (v_move rfl) ?_
   refine rnf ?_
   refine w_block ?_
   refine w_lp (ι := Int) (γ := Unit) (fun q77 g77 => [(42, isv (q77))]) (fun q77 g77 => []) h () (mod_cons (j := 42) rfl (fun _ _ h => h) mod_nil) .nil (fun L78 q77 g77 Q93 h hL78 eL78 rL78 => ?_)
   refine wsr ?_
   refine oV (v_lss rfl rfl) ?_
   refine rnf ?_
   refine w_seq ?_
   refine w_condM h rfl (fun _ h => ?_) (fun _ h => ?_)
   ·
    refine wkf ?_
    refine w_seq ?_
    refine w_block ?_
    refine wsr ?_
    refine oV (v_move rfl) ?_
    refine oV (v_assign rfl) ?_
    refine rnf ?_
    refine wsr ?_
    refine oV (v_fi rfl GMod.f2 fd26_2 rfl (z := a_m.names)) ?_
    refine oV (v_loadI ty22 rfl) ?_
    refine oV (v_ln (l := a_m.names) rfl (fun _ _ h => h) sl22) ?_
    refine asd_inv h fun q86 h => ?_
    refine oT (t_makeVec el88 ze4 Tryd.underlying88 rfl rfl q86.1 rfl q86.2 fun v87 => ?_)
    refine oV (v_assign rfl) ?_
    refine rnf ?_
    refine wsr ?_
    refine oV (v_move rfl) ?_
    refine oV (v_move rfl) ?_
    refine oV (v_move rfl) ?_
    refine cal_inv h fun y88 hy88 h => ?_
    refine oT (t_call (refs_reaches_w fuel hy88) hT (.same rfl (.same rfl (.cons rfl (fun _ _ h => vecvE (by first | rfl | simp) _ _ h) .nil))) (.cons .here .nil) (fun R H' hR => ?_))
    obtain ⟨rfl, rfl⟩ := hR
    refine asd_inv h fun q89 h => ?_
    refine rl_upd (upd_slot 48 rfl (vecvE q89.symm)) ?_
    refine rl_upd (upd_slot 10 rfl (vecvE q89.symm)) ?_
    refine rl_upd (upd_slot 51 rfl (vecvE q89.symm)) ?_
    refine rnf ?_
    refine wsr ?_
    refine oV (v_move rfl) ?_
    refine oV (v_move rfl) ?_
    refine asd_inv h fun q90 h => ?_
    refine oV (v_vidx (α := Bool) sl88 rfl rfl q90.1 q90.2) ?_
    refine cal_inv h fun y91 hy91 h => ?_
    refine oT (t_vload ty4 rfl .here hy91 ?_)
    refine rnf ?_
    refine w_condM h rfl (fun _ h => ?_) (fun _ h => ?_)
    ·
     refine wsr ?_
     refine oV (v_move rfl) ?_
     refine oV (v_assign rfl) ?_
     refine oV (v_assign rfl) ?_
     refine rnf ?_
     refine w_ret ?_
     refine ret_block ?_
     refine ret_nxt ?_
     refine rL78 _ ?_
     refine ret_block ?_
     refine ret_nxt ?_
     refine ret_post (.tmp rfl (.tmp rfl .nil)) .nil ?_
     obtain rfl := Option.some.inj h
     exact ⟨rfl, rfl⟩
    ·
     refine w_skip ?_
     refine fin_block ?_
     refine fin_nxt ?_
     refine w_region ?_
     refine ck_inv h fun q92 h => ?_
     refine oV (v_add rfl rfl q92) ?_
     refine oV (v_move rfl) ?_
     refine rl_nil ?_
     exact hL78 _ () h _ (join_imp 22 rfl rfl (mod_cons (j := 42) rfl (fun _ _ h => h) mod_nil) .nil)
   ·
    refine w_exit ?_
    refine exi_nxt ?_
    refine eL78 _ _ ?_
    refine exi_block ?_
    refine fin_nxt ?_
    refine wsr ?_
    refine oV (v_assign rfl) ?_
    refine oV (v_assign rfl) ?_
    refine rnf ?_
    refine w_ret ?_
    refine ret_post (.tmp rfl (.tmp rfl .nil)) .nil ?_
    obtain rfl := Option.some.inj h
    exact ⟨rfl, rfl⟩


theorem slices_Index_Lint_int_w : ∀ {a_s : (List Int)} {a_v : Int} {r : Int}, slices_Index_Lint_int a_s a_v = some r → Ctr Tryd.prog 46 [isv (a_s), isv (a_v)] [] (fun R H => R = oneOf [isv (r)] ∧ H = []) := by
 intro a_s a_v r h
 unfold slices_Index_Lint_int at h
 refine spec_intro Tryd.func46 rfl (by decide +kernel) (by rfl) fun w0 S0 hT => ?_
 refine wsr ?_
 refine oV (v_assign rfl) ?_
 refine rnf ?_
 refine w_seq ?_
 refine wsr ?_
 refine oV (v_move rfl) ?_
 refine oV (v_ln (l := a_s) rfl (fun _ _ h => h) sl23) ?_
 refine oV (v_move rfl) ?_
 refine rnf ?_
 refine w_block ?_
 refine w_lp (ι := Int) (γ := Unit) (fun q1 g1 => [(8, isv (q1))]) (fun q1 g1 => []) h () (mod_cons (j := 8) rfl (fun _ _ h => h) mod_nil) .nil (fun L2 q1 g1 Q7 h hL2 eL2 rL2 => ?_)
 refine wsr ?_
 refine oV (v_lss rfl rfl) ?_
 refine rnf ?_
 refine w_seq ?_
 refine w_condM h rfl (fun _ h => ?_) (fun _ h => ?_)
 ·
  refine wkf ?_
  refine w_seq ?_
  refine w_block ?_
  refine wsr ?_
  refine oV (v_move rfl) ?_
  refine oV (v_assign rfl) ?_
  refine rnf ?_
  refine wsr ?_
  refine oV (v_move rfl) ?_
  refine oV (v_move rfl) ?_
  refine oV (v_move rfl) ?_
  refine cal_inv h fun y5 hy5 h => ?_
  refine oV (v_ix (l := a_s) rfl (fun _ _ h => h) rfl sl23 hy5) ?_
  refine oV (v_loadI ty3 rfl) ?_
  refine oV (v_eql rfl rfl) ?_
  refine rnf ?_
  refine w_condM h rfl (fun _ h => ?_) (fun _ h => ?_)
  ·
   refine wsr ?_
   refine oV (v_move rfl) ?_
   refine oV (v_assign rfl) ?_
   refine rnf ?_
   refine w_ret ?_
   refine ret_block ?_
   refine ret_nxt ?_
   refine rL2 _ ?_
   refine ret_block ?_
   refine ret_nxt ?_
   refine ret_post (.tmp rfl .nil) .nil ?_
   obtain rfl := Option.some.inj h
   exact ⟨rfl, rfl⟩
  ·
   refine w_skip ?_
   refine fin_block ?_
   refine fin_nxt ?_
   refine w_region ?_
   refine ck_inv h fun q6 h => ?_
   refine oV (v_add rfl rfl q6) ?_
   refine oV (v_move rfl) ?_
   refine rl_nil ?_
   exact hL2 _ () h _ (join_imp 12 rfl rfl (mod_cons (j := 8) rfl (fun _ _ h => h) mod_nil) .nil)
 ·
  refine w_exit ?_
  refine exi_nxt ?_
  refine eL2 _ _ ?_
  refine exi_block ?_
  refine fin_nxt ?_
  refine wsr ?_
  refine oV (v_assign rfl) ?_
  refine rnf ?_
  refine w_ret ?_
  refine ret_post (.tmp rfl .nil) .nil ?_
  obtain rfl := Option.some.inj h
  exact ⟨rfl, rfl⟩


theorem slices_Contains_Lint_int_w : ∀ {a_s : (List Int)} {a_v : Int} {r : Bool}, slices_Contains_Lint_int a_s a_v = some r → Ctr Tryd.prog 28 [isv (a_s), isv (a_v)] [] (fun R H => R = oneOf [isv (r)] ∧ H = []) := by
 intro a_s a_v r h
 unfold slices_Contains_Lint_int at h
 refine spec_intro Tryd.func28 rfl (by decide +kernel) (by rfl) fun w0 S0 hT => ?_
 refine wsr ?_
 refine oV (v_assign rfl) ?_
 refine rnf ?_
 refine wsr ?_
 refine oV (v_move rfl) ?_
 refine oV (v_move rfl) ?_
 refine cal_inv h fun y1 hy1 h => ?_
 refine oT (t_call (slices_Index_Lint_int_w hy1) hT (.same rfl (.same rfl .nil)) .nil (fun R H' hR => ?_))
 obtain ⟨rfl, rfl⟩ := hR
 refine oV (v_geq rfl rfl) ?_
 refine oV (v_assign rfl) ?_
 refine rnf ?_
 refine w_ret ?_
 refine ret_post (.tmp rfl .nil) .nil ?_
 obtain rfl := Option.some.inj h
 exact ⟨rfl, rfl⟩


theorem refs_Order_c1_w : ∀ {a_k : Int} {a_a1 : (List Int)} {b_a_a1 : Nat} {t_a_a11 : Tok} {r : Bool × (List Int)}, refs_Order_c1 a_k a_a1 = some r → Ctr Tryd.prog 30 [isv (a_k), ptrv b_a_a1 (Fld.id (TList Int))] [boxE b_a_a1 ((TList.mk t_a_a11 a_a1) : (TList Int)), tokE t_a_a11] (fun R H => ∃ u1 : Tok, R = oneOf [isv (r.1)] ∧ H = [boxE b_a_a1 ((TList.mk u1 r.2)), tokE u1]) := by
 intro a_k a_a1 b_a_a1 t_a_a11 r h
 unfold refs_Order_c1 at h
 refine spec_intro Tryd.func30 rfl (by decide +kernel) (by rfl) fun w0 S0 hT => ?_
 refine wsr ?_
 refine oV (v_assign rfl) ?_
 refine rnf ?_
 refine wsr ?_
 refine oT (t_loadC (R := appv t_a_a11 (a_a1)) ty23 rfl .here isvT1 ?_)
 refine oV (v_move rfl) ?_
 refine cal_inv h fun y2 hy2 h => ?_
 refine oT (t_call (slices_Contains_Lint_int_w hy2) hT (.cons rfl appv_isv (.same rfl .nil)) .nil (fun R H' hR => ?_))
 obtain ⟨rfl, rfl⟩ := hR
 refine oV (v_not rfl) ?_
 refine oV (v_assign rfl) ?_
 refine rnf ?_
 refine w_ret ?_
 refine ret_post (.tmp rfl .nil) (.cons .here (.cons .here .nil)) ?_
 obtain rfl := Option.some.inj h
 exact ⟨t_a_a11, rfl, rfl⟩


theorem slices_IndexFunc_Lint_int_w : ∀ {a_s : (List Int)} {a_f_0 : (List Int)} {b_a_f_0 : Nat} {t_a_f_01 : Tok} {r : Int × (List Int)}, slices_IndexFunc_Lint_int a_s a_f_0 = some r → Ctr Tryd.prog 47 [isv (a_s), clov 30 [ptrv b_a_f_0 (Fld.id (TList Int))]] [boxE b_a_f_0 ((TList.mk t_a_f_01 a_f_0) : (TList Int)), tokE t_a_f_01] (fun R H => ∃ u1 : Tok, R = oneOf [isv (r.1)] ∧ H = [boxE b_a_f_0 ((TList.mk u1 r.2)), tokE u1]) := by
 intro a_s a_f_0 b_a_f_0 t_a_f_01 r h
 unfold slices_IndexFunc_Lint_int at h
 refine spec_intro Tryd.func47 rfl (by decide +kernel) (by rfl) fun w0 S0 hT => ?_
 refine wsr ?_
 refine oV (v_assign rfl) ?_
 refine rnf ?_
 refine w_seq ?_
 refine wsr ?_
 refine oV (v_move rfl) ?_
 refine oV (v_ln (l := a_s) rfl (fun _ _ h => h) sl23) ?_
 refine oV (v_move rfl) ?_
 refine rnf ?_
 refine w_block ?_
 refine w_lp (ι := Int × (List Int)) (γ := Tok) (fun q2 g2 => [(8, isv (q2.1))]) (fun q2 g2 => [boxE b_a_f_0 ((TList.mk g2 q2.2) : (TList Int)), tokE g2]) h (t_a_f_01) (mod_cons (j := 8) rfl (fun _ _ h => h) mod_nil) (.cons .here (.cons .here .nil)) (fun L3 q2 g2 Q12 h hL3 eL3 rL3 => ?_)
 refine wsr ?_
 refine oV (v_lss rfl rfl) ?_
 refine rnf ?_
 refine w_seq ?_
 refine w_condM h rfl (fun _ h => ?_) (fun _ h => ?_)
 ·
  refine wkf ?_
  refine w_seq ?_
  refine w_block ?_
  refine wsr ?_
  refine oV (v_move rfl) ?_
  refine oV (v_assign rfl) ?_
  refine rnf ?_
  refine wsr ?_
  refine oV (v_move rfl) ?_
  refine oV (v_move rfl) ?_
  refine oV (v_move rfl) ?_
  refine cal_inv h fun y8 hy8 h => ?_
  refine oV (v_ix (l := a_s) rfl (fun _ _ h => h) rfl sl23 hy8) ?_
  refine oV (v_loadI ty3 rfl) ?_
  refine cal_inv h fun y9 hy9 h => ?_
  refine oT (t_callC rfl (.same rfl .nil) (refs_Order_c1_w hy9) hT (.cons .here (.cons .here .nil)) (fun R H' hR => ?_))
  obtain ⟨t10, rfl, rfl⟩ := hR
  refine rnf ?_
  refine w_condM h rfl (fun _ h => ?_) (fun _ h => ?_)
  ·
   refine wsr ?_
   refine oV (v_move rfl) ?_
   refine oV (v_assign rfl) ?_
   refine rnf ?_
   refine w_ret ?_
   refine ret_block ?_
   refine ret_nxt ?_
   refine rL3 _ ?_
   refine ret_block ?_
   refine ret_nxt ?_
   refine ret_post (.tmp rfl .nil) (.cons .here (.cons .here .nil)) ?_
   obtain rfl := Option.some.inj h
   exact ⟨t10, rfl, rfl⟩
  ·
   refine w_skip ?_
   refine fin_block ?_
   refine fin_nxt ?_
   refine w_region ?_
   refine ck_inv h fun q11 h => ?_
   refine oV (v_add rfl rfl q11) ?_
   refine oV (v_move rfl) ?_
   refine rl_nil ?_
   exact hL3 _ (t10) h _ (join_imp 12 rfl rfl (mod_cons (j := 8) rfl (fun _ _ h => h) mod_nil) (.cons .here (.cons .here .nil)))
 ·
  refine w_exit ?_
  refine exi_nxt ?_
  refine eL3 _ _ ?_
  refine exi_block ?_
  refine fin_nxt ?_
  refine wsr ?_
  refine oV (v_assign rfl) ?_
  refine rnf ?_
  refine w_ret ?_
  refine ret_post (.tmp rfl .nil) (.cons .here (.cons .here .nil)) ?_
  obtain rfl := Option.some.inj h
  exact ⟨g2, rfl, rfl⟩


theorem slices_ContainsFunc_Lint_int_w : ∀ {a_s : (List Int)} {a_f_0 : (List Int)} {b_a_f_0 : Nat} {t_a_f_01 : Tok} {r : Bool × (List Int)}, slices_ContainsFunc_Lint_int a_s a_f_0 = some r → Ctr Tryd.prog 29 [isv (a_s), clov 30 [ptrv b_a_f_0 (Fld.id (TList Int))]] [boxE b_a_f_0 ((TList.mk t_a_f_01 a_f_0) : (TList Int)), tokE t_a_f_01] (fun R H => ∃ u1 : Tok, R = oneOf [isv (r.1)] ∧ H = [boxE b_a_f_0 ((TList.mk u1 r.2)), tokE u1]) := by
 intro a_s a_f_0 b_a_f_0 t_a_f_01 r h
 unfold slices_ContainsFunc_Lint_int at h
 refine spec_intro Tryd.func29 rfl (by decide +kernel) (by rfl) fun w0 S0 hT => ?_
 refine wsr ?_
 refine oV (v_assign rfl) ?_
 refine rnf ?_
 refine wsr ?_
 refine oV (v_move rfl) ?_
 refine oV (v_move rfl) ?_
 refine cal_inv h fun y2 hy2 h => ?_
 refine oT (t_call (slices_IndexFunc_Lint_int_w hy2) hT (.same rfl (.same rfl .nil)) (.cons .here (.cons .here .nil)) (fun R H' hR => ?_))
 obtain ⟨t3, rfl, rfl⟩ := hR
 refine oV (v_geq rfl rfl) ?_
 refine oV (v_assign rfl) ?_
 refine rnf ?_
 refine w_ret ?_
 refine ret_post (.tmp rfl .nil) (.cons .here (.cons .here .nil)) ?_
 obtain rfl := Option.some.inj h
 exact ⟨t3, rfl, rfl⟩


theorem refs_Order_w : ∀ {a_m : GMod} {r : (List Int) × Int × Int}, refs_Order a_m = some r → Ctr Tryd.prog 10 [isv (a_m)] [] (fun R H => R = oneOf [isv (r.1), isv (r.2.1), isv (r.2.2)] ∧ H = []) := by
 intro a_m r h
 unfold refs_Order at h
 refine spec_intro Tryd.func10 rfl (by decide +kernel) (by rfl) fun w0 S0 hT => ?_
 refine wsr ?_
 refine oT (t_boxIC (y := a_m) rfl (fun _ _ h => h) ?_)
 refine oV (v_assign rfl) ?_
 refine oV (v_assign rfl) ?_
 refine oV (v_assign rfl) ?_
 refine rnf ?_
 refine wsr ?_
 refine oV (v_assign rfl) ?_
 refine rnf ?_
 refine w_seq ?_
 refine wsr ?_
 refine oV (v_fi rfl GMod.f2 fd26_2 rfl (z := a_m.names)) ?_
 refine oV (v_loadI ty22 rfl) ?_
 refine oV (v_ln (l := a_m.names) rfl (fun _ _ h => h) sl22) ?_
 refine oV (v_move rfl) ?_
 refine rnf ?_
 refine w_block ?_
 refine w_upd (upd_tok) ?_
 refine w_lp (ι := (List (List Int)) × Int) (γ := Tok) (fun q1 g1 => [(5, appv g1 (q1.1)), (14, isv (q1.2))]) (fun q1 g1 => [tokE g1]) h (none) (mod_cons (j := 5) rfl nilv_appv (mod_cons (j := 14) rfl (fun _ _ h => h) mod_nil)) (.cons .here .nil) (fun L2 q1 g1 Q128 h hL2 eL2 rL2 => ?_)
 refine wsr ?_
 refine oV (v_lss rfl rfl) ?_
 refine rnf ?_
 refine w_seq ?_
 refine w_condM h rfl (fun _ h => ?_) (fun _ h => ?_)
 ·
  refine wkf ?_
  refine w_seq ?_
  refine w_block ?_
  refine wsr ?_
  refine oV (v_move rfl) ?_
  refine oV (v_assign rfl) ?_
  refine rnf ?_
  refine w_regionD (.v 0 (.v 1 (.v 2 (.v 3 (.t 4 (.t 5 (.t 6 (.t 7 (.v 8 .nil))))))))) moOrd (by kernel_rfl) ?_
  refine rd_v rfl (v_move rfl) ?_
  refine rd_v rfl (v_loadI ty26 rfl) ?_
  refine rd_v rfl (v_loadI ty26 rfl) ?_
  refine rd_v rfl (v_move rfl) ?_
  refine cal_inv h fun y65 hy65 h => ?_
  refine rd_t rfl rfl (t_call (refs_of_w hy65) hT (.same rfl (.same rfl .nil)) .nil (fun R H' hR => ?_))
  obtain ⟨rfl, rfl⟩ := hR
  refine cal_inv h fun y66 hy66 h => ?_
  refine rd_t rfl rfl (t_call (refs_Uses_w hy66) hT (.same rfl (.same rfl .nil)) .nil (fun R H' hR => ?_))
  obtain ⟨rfl, rfl⟩ := hR
  refine rd_t rfl rfl (t_buildSlice (l := ([y66] : (List (List Int)))) el57 (.cons rfl (fun _ _ h => h) .nil) rfl rfl ?_)
  refine asr_inv h fun q69 h => ?_
  refine rd_t rfl rfl (t_appC (l := q1.1) (m := ([y66] : (List (List Int)))) ap57_57 rfl (fun _ _ h => h) rfl appv_isv .here q69 fun t68 => ?_)
  refine rd_v rfl (v_assign rfl) ?_
  refine rd_nil ?_
  refine fin_block ?_
  refine fin_nxt ?_
  refine w_region ?_
  refine ck_inv h fun q70 h => ?_
  refine oV (v_add rfl rfl q70) ?_
  refine oV (v_move rfl) ?_
  refine rl_nil ?_
  exact hL2 _ (t68) h _ (join_imp 16 rfl rfl (mod_cons (j := 5) rfl (fun _ _ h => h) (mod_cons (j := 14) rfl (fun _ _ h => h) mod_nil)) (.cons .here .nil))
 ·
  refine w_exit ?_
  refine exi_nxt ?_
  refine eL2 _ _ ?_
  refine exi_block ?_
  refine fin_nxt ?_
  refine w_seq ?_
  refine wsr ?_
  refine oV (v_loadI ty26 rfl) ?_
  refine oV (v_move rfl) ?_
  refine cal_inv h fun y71 hy71 h => ?_
  refine oT (t_call (refs_wrong_w hy71) hT (.same rfl (.cons rfl appv_isv .nil)) .nil (fun R H' hR => ?_))
  obtain ⟨rfl, rfl⟩ := hR
  refine oV (v_move rfl) ?_
  refine oV (v_extract rfl rfl) ?_
  refine oV (v_extract rfl rfl) ?_
  refine oV (v_assign rfl) ?_
  refine oV (v_assign rfl) ?_
  refine rnf ?_
  refine wsr ?_
  refine oV (v_move rfl) ?_
  refine oV (v_neq rfl rfl) ?_
  refine rnf ?_
  refine w_condM h rfl (fun _ h => ?_) (fun _ h => ?_)
  ·
   refine wsr ?_
   refine oV (v_move rfl) ?_
   refine oV (v_move rfl) ?_
   refine oV (v_assign rfl) ?_
   refine oV (v_assign rfl) ?_
   refine oV (v_assign rfl) ?_
   refine rnf ?_
   refine w_ret ?_
   refine ret_nxt ?_
   refine ret_post (.as rfl (nilv_isv (α := Int)) (.tmp rfl (.tmp rfl .nil))) .nil ?_
   obtain rfl := Option.some.inj h
   exact ⟨rfl, rfl⟩
  ·
   refine wkf ?_
   refine wsr ?_
   refine oT (t_alloc _ zt23_3 fun b72 => ?_)
   refine rl_upd (upd_tok) ?_
   refine rnf ?_
   refine w_seq ?_
   refine w_block ?_
   refine w_lp (ι := (List Int)) (γ := Tok) (fun q74 g74 => []) (fun q74 g74 => [boxE b72 ((TList.mk g74 q74) : (TList Int)), tokE g74]) h (none) mod_nil (.cons (.there .here) (.cons .here .nil)) (fun L75 q74 g74 Q126 h hL75 eL75 rL75 => ?_)
   refine w_seq ?_
   refine wsr ?_
   refine oT (t_loadC (R := appv g74 (q74)) ty23 rfl .here isvT1 ?_)
   refine oV (v_ln (l := q74) rfl appv_isv sl23) ?_
   refine oV (v_fi rfl GMod.f2 fd26_2 rfl (z := a_m.names)) ?_
   refine oV (v_loadI ty22 rfl) ?_
   refine oV (v_ln (l := a_m.names) rfl (fun _ _ h => h) sl22) ?_
   refine oV (v_lss rfl rfl) ?_
   refine rnf ?_
   refine w_condM h rfl (fun _ h => ?_) (fun _ h => ?_)
   ·
    refine wkf ?_
    refine w_block ?_
    refine wsr ?_
    refine oV (v_fi rfl GMod.f2 fd26_2 rfl (z := a_m.names)) ?_
    refine oV (v_loadI ty22 rfl) ?_
    refine oV (v_ln (l := a_m.names) rfl (fun _ _ h => h) sl22) ?_
    refine oV (v_move rfl) ?_
    refine rnf ?_
    refine w_block ?_
    refine w_lp (ι := Int × (List Int)) (γ := Tok) (fun q101 g101 => [(45, isv (q101.1))]) (fun q101 g101 => [boxE b72 ((TList.mk g101 q101.2) : (TList Int)), tokE g101]) h (g74) (mod_cons (j := 45) rfl (fun _ _ h => h) mod_nil) (.cons .here (.cons .here .nil)) (fun L102 q101 g101 Q125 h hL102 eL102 rL102 => ?_)
    refine wsr ?_
    refine oV (v_lss rfl rfl) ?_
    refine rnf ?_
    refine w_seq ?_
    refine w_condM h rfl (fun _ h => ?_) (fun _ h => ?_)
    ·
     refine wkf ?_
     refine w_seq ?_
     refine w_block ?_
     refine wsr ?_
     refine oV (v_move rfl) ?_
     refine oV (v_assign rfl) ?_
     refine rnf ?_
     refine wsr ?_
     refine oT (t_loadC (R := appv g101 (q101.2)) ty23 rfl .here isvT1 ?_)
     refine oV (v_move rfl) ?_
     refine cal_inv h fun y114 hy114 h => ?_
     refine oT (t_call (slices_Contains_Lint_int_w hy114) hT (.cons rfl appv_isv (.same rfl .nil)) .nil (fun R H' hR => ?_))
     obtain ⟨rfl, rfl⟩ := hR
     refine oV (v_not rfl) ?_
     refine oV (v_move rfl) ?_
     refine rl_j (ι := Bool × (List Int)) (γ := Tok) (fun q115 g115 => [(60, isv (q115.1))]) (fun q115 g115 => [boxE b72 ((TList.mk g115 q115.2) : (TList Int)), tokE g115]) (.cons .here (.cons .here .nil)) h 8 rfl (fun q115 g115 h => ?_) (fun J116 h hJ116 => ?_)
     ·
      refine rnf ?_
      refine w_condM h rfl (fun _ h => ?_) (fun _ h => ?_)
      ·
       refine wsr ?_
       refine oT (t_loadC (R := appv g115 (q115.2)) ty23 rfl .here isvT1 ?_)
       refine oV (v_move rfl) ?_
       refine oT (t_buildSlice (l := ([q101.1] : (List Int))) el23 (.cons rfl (fun _ _ h => h) .nil) rfl rfl ?_)
       refine asr_inv h fun q123 h => ?_
       refine oT (t_appC (l := q115.2) (m := ([q101.1] : (List Int))) ap23_23 rfl (fun _ _ h => h) rfl appv_isv (.there .here) q123 fun t122 => ?_)
       refine oT (t_storeC (y' := ((TList.mk t122 (q115.2 ++ ([q101.1] : (List Int)))) : (TList Int))) ty23 rfl rfl isvT2 (.there .here) rfl ?_)
       refine rnf ?_
       refine w_exit ?_
       refine exi_pass rfl ?_
       refine exi_nxt ?_
       refine eL102 _ _ ?_
       refine exi_block ?_
       refine fin_block ?_
       exact hL75 _ (t122) h _ (join_imp 24 rfl rfl mod_nil (.cons .here (.cons .here (.cons .here .nil))))
      ·
       refine w_skip ?_
       refine fin_block ?_
       refine fin_nxt ?_
       refine w_region ?_
       refine ck_inv h fun q124 h => ?_
       refine oV (v_add rfl rfl q124) ?_
       refine oV (v_move rfl) ?_
       refine rl_nil ?_
       exact hL102 _ (g115) h _ (join_imp 12 rfl rfl (mod_cons (j := 45) rfl (fun _ _ h => h) mod_nil) (.cons .here (.cons .here (.cons .here .nil))))
     ·
      refine rl_condM (j := 52) h rfl (fun g117 h => ?_) (fun g117 h => ?_)
      ·
       refine op_take rfl rfl (dj := 52) rfl g117 (OpV.t (v_move rfl) ?_)
       refine op_take rfl rfl (dj := 52) rfl g117 (OpV.t (v_move rfl) ?_)
       refine cal_inv h fun y118 hy118 h => ?_
       refine op_take rfl rfl (dj := 52) rfl g117 (OpV.t (v_ix (l := q1.1) rfl appv_isv rfl sl57 hy118) ?_)
       refine op_take rfl rfl (dj := 52) rfl g117 (OpV.t (v_loadI ty23 rfl) ?_)
       refine op_take rfl rfl (dj := 52) rfl g117 (OpV.t (v_makeFunc (.same rfl .nil)) ?_)
       refine cal_inv h fun y119 hy119 h => ?_
       refine op_take rfl rfl (dj := 52) rfl g117 (t_call (slices_ContainsFunc_Lint_int_w hy119) hT (.same rfl (.same rfl .nil)) (.cons .here (.cons .here .nil)) (fun R H' hR => ?_))
       obtain ⟨t120, rfl, rfl⟩ := hR
       refine op_take rfl rfl (dj := 52) rfl g117 (OpV.t (v_not rfl) ?_)
       refine oV (v_pick_t rfl g117 rfl) ?_
       exact hJ116 _ (t120) h _ (join_imp 8 rfl rfl (mod_cons (j := 60) rfl (fun _ _ h => h) mod_nil) (.cons .here (.cons .here (.cons .here .nil))))
      ·
       refine op_pass rfl (dj := 52) rfl g117 ?_
       refine op_pass rfl (dj := 52) rfl g117 ?_
       refine op_pass rfl (dj := 52) rfl g117 ?_
       refine op_pass rfl (dj := 52) rfl g117 ?_
       refine op_pass rfl (dj := 52) rfl g117 ?_
       refine op_pass rfl (dj := 52) rfl g117 ?_
       refine op_pass rfl (dj := 52) rfl g117 ?_
       refine oV (v_pick_f rfl g117 rfl) ?_
       exact hJ116 _ (g101) h _ (join_imp 8 rfl rfl (mod_cons (j := 60) rfl (fun _ _ h => h) mod_nil) (.cons .here (.cons .here (.cons .here .nil))))
    ·
     refine w_exit ?_
     refine exi_nxt ?_
     refine eL102 _ _ ?_
     refine exi_block ?_
     refine fin_block ?_
     exact hL75 _ (g101) h _ (join_imp 12 rfl rfl mod_nil (.cons .here (.cons .here (.cons .here .nil))))
   ·
    refine w_exit ?_
    refine exi_nxt ?_
    refine eL75 _ _ ?_
    refine exi_block ?_
    refine fin_nxt ?_
    refine wsr ?_
    refine oT (t_loadC (R := appv g74 (q74)) ty23 rfl .here isvT1 ?_)
    refine oV (v_assign rfl) ?_
    refine oV (v_assign rfl) ?_
    refine oV (v_assign rfl) ?_
    refine rnf ?_
    refine w_ret ?_
    refine ret_post (.as rfl appv_isv (.tmp rfl (.tmp rfl .nil))) .nil ?_
    obtain rfl := Option.some.inj h
    exact ⟨rfl, rfl⟩


theorem law07_awake_w : ∀  {r : Bool}, law07_awake  = some r → Ctr Tryd.prog 9 [] [] (fun R H => R = oneOf [isv (r)] ∧ H = []) := by
 intro  r h
 unfold law07_awake at h
 refine spec_intro Tryd.func9 rfl (by decide +kernel) (by rfl) fun w0 S0 hT => ?_
 refine wsr ?_
 refine oV (v_assign rfl) ?_
 refine rnf ?_
 refine wsr ?_
 refine cal_inv h fun y1 hy1 h => ?_
 refine oT (t_call (r05_Parse_w hy1) hT (.same rfl .nil) .nil (fun R H' hR => ?_))
 obtain ⟨rfl, rfl⟩ := hR
 refine oV (v_move rfl) ?_
 refine oV (v_extract rfl rfl) ?_
 refine oV (v_extract rfl rfl) ?_
 refine oV (v_extract rfl rfl) ?_
 refine oT (t_alloc _ ze26 fun b2 => ?_)
 refine oT (t_storeC (y' := (y1.1 : GMod)) ty26 rfl rfl (fun _ _ h => h) .here rfl ?_)
 refine rl_upd (upd_imm 1 .here rfl) ?_
 refine oV (v_assign rfl) ?_
 refine oV (v_assign rfl) ?_
 refine rnf ?_
 refine wsr ?_
 refine oV (v_loadI ty26 rfl) ?_
 refine cal_inv h fun y3 hy3 h => ?_
 refine oT (t_call (refs_Order_w hy3) hT (.same rfl .nil) .nil (fun R H' hR => ?_))
 obtain ⟨rfl, rfl⟩ := hR
 refine oV (v_move rfl) ?_
 refine oV (v_extract rfl rfl) ?_
 refine oV (v_extract rfl rfl) ?_
 refine oV (v_extract rfl rfl) ?_
 refine oV (v_assign rfl) ?_
 refine oV (v_assign rfl) ?_
 refine oV (v_assign rfl) ?_
 refine rnf ?_
 refine wsr ?_
 refine oV (v_move rfl) ?_
 refine oV (v_eql rfl rfl) ?_
 refine oV (v_move rfl) ?_
 refine rl_j (ι := Bool) (γ := Unit) (fun q4 g4 => [(24, isv (q4))]) (fun q4 g4 => []) .nil h 4 rfl (fun q4 g4 h => ?_) (fun J5 h hJ5 => ?_)
 ·
  refine oV (v_move rfl) ?_
  refine rl_j (ι := Bool) (γ := Unit) (fun q7 g7 => [(30, isv (q7))]) (fun q7 g7 => []) .nil h 5 rfl (fun q7 g7 h => ?_) (fun J8 h hJ8 => ?_)
  ·
   refine oV (v_move rfl) ?_
   refine rl_j (ι := Bool) (γ := Unit) (fun q11 g11 => [(35, isv (q11))]) (fun q11 g11 => []) .nil h 4 rfl (fun q11 g11 h => ?_) (fun J12 h hJ12 => ?_)
   ·
    refine oV (v_assign rfl) ?_
    refine rnf ?_
    refine w_ret ?_
    refine ret_post (.tmp rfl .nil) .nil ?_
    obtain rfl := Option.some.inj h
    exact ⟨rfl, rfl⟩
   ·
    refine rl_condM (j := 31) h rfl (fun g13 h => ?_) (fun g13 h => ?_)
    ·
     refine op_take rfl rfl (dj := 31) rfl g13 (OpV.t (v_loadI ty26 rfl) ?_)
     refine cal_inv h fun y14 hy14 h => ?_
     refine op_take rfl rfl (dj := 31) rfl g13 (t_call (refs_Find_w hy14) hT (.same rfl (.same rfl .nil)) .nil (fun R H' hR => ?_))
     obtain ⟨rfl, rfl⟩ := hR
     refine op_take rfl rfl (dj := 31) rfl g13 (OpV.t (v_eql rfl rfl) ?_)
     refine oV (v_pick_t rfl g13 rfl) ?_
     exact hJ12 _ () h _ (join_imp 4 rfl rfl (mod_cons (j := 35) rfl (fun _ _ h => h) mod_nil) .nil)
    ·
     refine op_pass rfl (dj := 31) rfl g13 ?_
     refine op_pass rfl (dj := 31) rfl g13 ?_
     refine op_pass rfl (dj := 31) rfl g13 ?_
     refine oV (v_pick_f rfl g13 rfl) ?_
     exact hJ12 _ () h _ (join_imp 4 rfl rfl (mod_cons (j := 35) rfl (fun _ _ h => h) mod_nil) .nil)
  ·
   refine rl_condM (j := 25) h rfl (fun g9 h => ?_) (fun g9 h => ?_)
   ·
    refine op_take rfl rfl (dj := 25) rfl g9 (OpV.t (v_move rfl) ?_)
    refine cal_inv h fun y10 hy10 h => ?_
    refine op_take rfl rfl (dj := 25) rfl g9 (OpV.t (v_ix (l := y3.1) rfl (fun _ _ h => h) rfl sl23 hy10) ?_)
    refine op_take rfl rfl (dj := 25) rfl g9 (OpV.t (v_loadI ty3 rfl) ?_)
    refine op_take rfl rfl (dj := 25) rfl g9 (OpV.t (v_eql rfl rfl) ?_)
    refine oV (v_pick_t rfl g9 rfl) ?_
    exact hJ8 _ () h _ (join_imp 5 rfl rfl (mod_cons (j := 30) rfl (fun _ _ h => h) mod_nil) .nil)
   ·
    refine op_pass rfl (dj := 25) rfl g9 ?_
    refine op_pass rfl (dj := 25) rfl g9 ?_
    refine op_pass rfl (dj := 25) rfl g9 ?_
    refine op_pass rfl (dj := 25) rfl g9 ?_
    refine oV (v_pick_f rfl g9 rfl) ?_
    exact hJ8 _ () h _ (join_imp 5 rfl rfl (mod_cons (j := 30) rfl (fun _ _ h => h) mod_nil) .nil)
 ·
  refine rl_condM (j := 20) h rfl (fun g6 h => ?_) (fun g6 h => ?_)
  ·
   refine op_take rfl rfl (dj := 20) rfl g6 (OpV.t (v_move rfl) ?_)
   refine op_take rfl rfl (dj := 20) rfl g6 (OpV.t (v_ln (l := y3.1) rfl (fun _ _ h => h) sl23) ?_)
   refine op_take rfl rfl (dj := 20) rfl g6 (OpV.t (v_eql rfl rfl) ?_)
   refine oV (v_pick_t rfl g6 rfl) ?_
   exact hJ5 _ () h _ (join_imp 4 rfl rfl (mod_cons (j := 24) rfl (fun _ _ h => h) mod_nil) .nil)
  ·
   refine op_pass rfl (dj := 20) rfl g6 ?_
   refine op_pass rfl (dj := 20) rfl g6 ?_
   refine op_pass rfl (dj := 20) rfl g6 ?_
   refine oV (v_pick_f rfl g6 rfl) ?_
   exact hJ5 _ () h _ (join_imp 4 rfl rfl (mod_cons (j := 24) rfl (fun _ _ h => h) mod_nil) .nil)


theorem r07_Find_w : ∀ {a_m : GMod} {a_name : Str} {r : Int}, r07_Find a_m a_name = some r → Ctr Tryd.prog 13 [isv (a_m), isv (a_name)] [] (fun R H => R = oneOf [isv (r)] ∧ H = []) := by
 intro a_m a_name r h
 unfold r07_Find at h
 refine spec_intro Tryd.func13 rfl (by decide +kernel) (by rfl) fun w0 S0 hT => ?_
 refine wsr ?_
 refine oT (t_boxIC (y := a_m) rfl (fun _ _ h => h) ?_)
 refine oV (v_assign rfl) ?_
 refine rnf ?_
 refine w_seq ?_
 refine wsr ?_
 refine oV (v_assign rfl) ?_
 refine rnf ?_
 refine w_block ?_
 refine w_lp (ι := Int) (γ := Unit) (fun q1 g1 => [(5, isv (q1))]) (fun q1 g1 => []) h () (mod_cons (j := 5) rfl (fun _ _ h => h) mod_nil) .nil (fun L2 q1 g1 Q7 h hL2 eL2 rL2 => ?_)
 refine w_seq ?_
 refine wsr ?_
 refine oV (v_move rfl) ?_
 refine oV (v_fi rfl GMod.f2 fd26_2 rfl (z := a_m.names)) ?_
 refine oV (v_loadI ty22 rfl) ?_
 refine oV (v_ln (l := a_m.names) rfl (fun _ _ h => h) sl22) ?_
 refine oV (v_lss rfl rfl) ?_
 refine rnf ?_
 refine w_condM h rfl (fun _ h => ?_) (fun _ h => ?_)
 ·
  refine wkf ?_
  refine w_seq ?_
  refine w_block ?_
  refine wsr ?_
  refine oV (v_fi rfl GMod.f2 fd26_2 rfl (z := a_m.names)) ?_
  refine oV (v_loadI ty22 rfl) ?_
  refine oV (v_move rfl) ?_
  refine cal_inv h fun y5 hy5 h => ?_
  refine oV (v_ix (l := a_m.names) rfl (fun _ _ h => h) rfl sl22 hy5) ?_
  refine oV (v_loadI ty9 rfl) ?_
  refine oV (v_move rfl) ?_
  refine oV (v_eqA eq9 rfl rfl) ?_
  refine rnf ?_
  refine w_condM h rfl (fun _ h => ?_) (fun _ h => ?_)
  ·
   refine wsr ?_
   refine oV (v_move rfl) ?_
   refine oV (v_assign rfl) ?_
   refine rnf ?_
   refine w_ret ?_
   refine ret_block ?_
   refine ret_nxt ?_
   refine rL2 _ ?_
   refine ret_block ?_
   refine ret_nxt ?_
   refine ret_post (.tmp rfl .nil) .nil ?_
   obtain rfl := Option.some.inj h
   exact ⟨rfl, rfl⟩
  ·
   refine w_skip ?_
   refine fin_block ?_
   refine fin_nxt ?_
   refine w_region ?_
   refine oV (v_move rfl) ?_
   refine ck_inv h fun q6 h => ?_
   refine oV (v_add rfl rfl q6) ?_
   refine oV (v_assign rfl) ?_
   refine rl_nil ?_
   exact hL2 _ () h _ (join_imp 16 rfl rfl (mod_cons (j := 5) rfl (fun _ _ h => h) mod_nil) .nil)
 ·
  refine w_exit ?_
  refine exi_nxt ?_
  refine eL2 _ _ ?_
  refine exi_block ?_
  refine fin_nxt ?_
  refine wsr ?_
  refine oV (v_assign rfl) ?_
  refine rnf ?_
  refine w_ret ?_
  refine ret_post (.tmp rfl .nil) .nil ?_
  obtain rfl := Option.some.inj h
  exact ⟨rfl, rfl⟩


theorem h_In_int_w : ∀ {a_l : (List Int)} {a_x : Int} {r : Bool}, h_In_int a_l a_x = some r → Ctr Tryd.prog 17 [isv (a_l), isv (a_x)] [] (fun R H => R = oneOf [isv (r)] ∧ H = []) := by
 intro a_l a_x r h
 unfold h_In_int at h
 refine spec_intro Tryd.func17 rfl (by decide +kernel) (by rfl) fun w0 S0 hT => ?_
 refine wsr ?_
 refine oV (v_assign rfl) ?_
 refine rnf ?_
 refine w_seq ?_
 refine wsr ?_
 refine oV (v_assign rfl) ?_
 refine rnf ?_
 refine w_block ?_
 refine w_lp (ι := Int) (γ := Unit) (fun q1 g1 => [(5, isv (q1))]) (fun q1 g1 => []) h () (mod_cons (j := 5) rfl (fun _ _ h => h) mod_nil) .nil (fun L2 q1 g1 Q7 h hL2 eL2 rL2 => ?_)
 refine w_seq ?_
 refine wsr ?_
 refine oV (v_move rfl) ?_
 refine oV (v_move rfl) ?_
 refine oV (v_ln (l := a_l) rfl (fun _ _ h => h) sl23) ?_
 refine oV (v_lss rfl rfl) ?_
 refine rnf ?_
 refine w_condM h rfl (fun _ h => ?_) (fun _ h => ?_)
 ·
  refine wkf ?_
  refine w_seq ?_
  refine w_block ?_
  refine wsr ?_
  refine oV (v_move rfl) ?_
  refine oV (v_move rfl) ?_
  refine cal_inv h fun y5 hy5 h => ?_
  refine oV (v_ix (l := a_l) rfl (fun _ _ h => h) rfl sl23 hy5) ?_
  refine oV (v_loadI ty3 rfl) ?_
  refine oV (v_move rfl) ?_
  refine oV (v_eql rfl rfl) ?_
  refine rnf ?_
  refine w_condM h rfl (fun _ h => ?_) (fun _ h => ?_)
  ·
   refine wsr ?_
   refine oV (v_assign rfl) ?_
   refine rnf ?_
   refine w_ret ?_
   refine ret_block ?_
   refine ret_nxt ?_
   refine rL2 _ ?_
   refine ret_block ?_
   refine ret_nxt ?_
   refine ret_post (.tmp rfl .nil) .nil ?_
   obtain rfl := Option.some.inj h
   exact ⟨rfl, rfl⟩
  ·
   refine w_skip ?_
   refine fin_block ?_
   refine fin_nxt ?_
   refine w_region ?_
   refine oV (v_move rfl) ?_
   refine ck_inv h fun q6 h => ?_
   refine oV (v_add rfl rfl q6) ?_
   refine oV (v_assign rfl) ?_
   refine rl_nil ?_
   exact hL2 _ () h _ (join_imp 14 rfl rfl (mod_cons (j := 5) rfl (fun _ _ h => h) mod_nil) .nil)
 ·
  refine w_exit ?_
  refine exi_nxt ?_
  refine eL2 _ _ ?_
  refine exi_block ?_
  refine fin_nxt ?_
  refine wsr ?_
  refine oV (v_assign rfl) ?_
  refine rnf ?_
  refine w_ret ?_
  refine ret_post (.tmp rfl .nil) .nil ?_
  obtain rfl := Option.some.inj h
  exact ⟨rfl, rfl⟩


def r07_uses_C (f' : GMod → Int → Int → (List Int) → Option ((List Int) × Bool)) : Prop :=
 ∀ {a_m : GMod} {a_node : Int} {a_depth : Int} {a_l : (List Int)} {t_a_l : Tok} {r : (List Int) × Bool}, f' a_m a_node a_depth a_l = some r → Ctr Tryd.prog 32 [isv (a_m), isv (a_node), isv (a_depth), appv t_a_l (a_l)] [tokE t_a_l] (fun R H => ∃ u1 : Tok, R = oneOf [appv u1 (r.1), isv (r.2)] ∧ H = [tokE u1])
theorem r07_uses_w0 {r07_uses' : GMod → Int → Int → (List Int) → Option ((List Int) × Bool)} (h_r07_uses : r07_uses_C r07_uses') : ∀ {a_m : GMod} {a_node : Int} {a_depth : Int} {a_l : (List Int)} {t_a_l : Tok} {r : (List Int) × Bool}, r07_uses_F r07_uses' a_m a_node a_depth a_l = some r → Ctr Tryd.prog 32 [isv (a_m), isv (a_node), isv (a_depth), appv t_a_l (a_l)] [tokE t_a_l] (fun R H => ∃ u1 : Tok, R = oneOf [appv u1 (r.1), isv (r.2)] ∧ H = [tokE u1]) := by
 intro a_m a_node a_depth a_l t_a_l r h
 unfold r07_uses_F at h
 refine spec_intro Tryd.func32 rfl (by decide +kernel) (by rfl) fun w0 S0 hT => ?_
 refine wsr ?_
 refine oT (t_boxIC (y := a_m) rfl (fun _ _ h => h) ?_)
 refine oV (v_assign rfl) ?_
 refine oV (v_assign rfl) ?_
 refine rnf ?_
 refine w_seq ?_
 refine wsr ?_
 refine oV (v_move rfl) ?_
 refine oV (v_lss rfl rfl) ?_
 refine oV (v_move rfl) ?_
 refine rl_j (ι := Bool) (γ := Unit) (fun q1 g1 => [(24, isv (q1))]) (fun q1 g1 => []) .nil h 6 rfl (fun q1 g1 h => ?_) (fun J2 h hJ2 => ?_)
 ·
  refine oV (v_move rfl) ?_
  refine rl_j (ι := Bool) (γ := Unit) (fun q4 g4 => [(28, isv (q4))]) (fun q4 g4 => []) .nil h 3 rfl (fun q4 g4 h => ?_) (fun J5 h hJ5 => ?_)
  ·
   refine rnf ?_
   refine w_condM h rfl (fun _ h => ?_) (fun _ h => ?_)
   ·
    refine wsr ?_
    refine oV (v_move rfl) ?_
    refine oV (v_assign rfl) ?_
    refine oV (v_assign rfl) ?_
    refine rnf ?_
    refine w_ret ?_
    refine ret_nxt ?_
    refine ret_post (.tmp rfl (.tmp rfl .nil)) (.cons .here .nil) ?_
    obtain rfl := Option.some.inj h
    exact ⟨t_a_l, rfl, rfl⟩
   ·
    refine wkf ?_
    refine wsr ?_
    refine oV (v_fi rfl GMod.f4 fd26_4 rfl (z := a_m.nodes)) ?_
    refine oV (v_loadI ty24 rfl) ?_
    refine oV (v_move rfl) ?_
    refine cal_inv h fun y7 hy7 h => ?_
    refine oV (v_ix (l := a_m.nodes) rfl (fun _ _ h => h) rfl sl24 hy7) ?_
    refine oV (v_loadI ty83 rfl) ?_
    refine oT (t_alloc _ ze83 fun b8 => ?_)
    refine oT (t_storeC (y' := (y7 : GNode)) ty83 rfl rfl (fun _ _ h => h) .here rfl ?_)
    refine rl_upd (upd_imm 10 .here rfl) ?_
    refine rnf ?_
    refine w_seq ?_
    refine wsr ?_
    refine oV (v_fi rfl GNode.f0 fd83_0 rfl (z := y7.kind)) ?_
    refine oV (v_loadI ty3 rfl) ?_
    refine oV (v_eql rfl rfl) ?_
    refine rnf ?_
    refine w_condM h rfl (fun _ h => ?_) (fun _ h => ?_)
    ·
     refine wsr ?_
     refine oV (v_loadI ty26 rfl) ?_
     refine oV (v_fi rfl GNode.f1 fd83_1 rfl (z := y7.name)) ?_
     refine oV (v_loadI ty9 rfl) ?_
     refine cal_inv h fun y9 hy9 h => ?_
     refine oT (t_call (r07_Find_w hy9) hT (.same rfl (.same rfl .nil)) .nil (fun R H' hR => ?_))
     obtain ⟨rfl, rfl⟩ := hR
     refine oV (v_assign rfl) ?_
     refine rnf ?_
     refine w_seq ?_
     refine wsr ?_
     refine oV (v_move rfl) ?_
     refine oV (v_lss rfl rfl) ?_
     refine rnf ?_
     refine w_condM h rfl (fun _ h => ?_) (fun _ h => ?_)
     ·
      refine wsr ?_
      refine oV (v_move rfl) ?_
      refine oV (v_assign rfl) ?_
      refine oV (v_assign rfl) ?_
      refine rnf ?_
      refine w_ret ?_
      refine ret_nxt ?_
      refine ret_nxt ?_
      refine ret_post (.tmp rfl (.tmp rfl .nil)) (.cons .here .nil) ?_
      obtain rfl := Option.some.inj h
      exact ⟨t_a_l, rfl, rfl⟩
     ·
      refine wkf ?_
      refine w_seq ?_
      refine wsr ?_
      refine oV (v_move rfl) ?_
      refine oV (v_move rfl) ?_
      refine cal_inv h fun y10 hy10 h => ?_
      refine oT (t_call (h_In_int_w hy10) hT (.cons rfl appv_isv (.same rfl .nil)) .nil (fun R H' hR => ?_))
      obtain ⟨rfl, rfl⟩ := hR
      refine oV (v_not rfl) ?_
      refine rnf ?_
      refine w_J (ι := (List Int)) (γ := Tok) (fun q11 g11 => [(3, appv g11 (q11))]) (fun q11 g11 => [tokE g11]) (.cons .here .nil) h (fun q11 g11 h => ?_) (fun J12 h hJ12 => ?_)
      ·
       refine wsr ?_
       refine oV (v_move rfl) ?_
       refine oV (v_assign rfl) ?_
       refine oV (v_assign rfl) ?_
       refine rnf ?_
       refine w_ret ?_
       refine ret_nxt ?_
       refine ret_post (.tmp rfl (.tmp rfl .nil)) (.cons .here .nil) ?_
       obtain rfl := Option.some.inj h
       exact ⟨g11, rfl, rfl⟩
      ·
       refine w_condM h rfl (fun _ h => ?_) (fun _ h => ?_)
       ·
        refine w_region ?_
        refine oV (v_move rfl) ?_
        refine oV (v_move rfl) ?_
        refine oT (t_buildSlice (l := ([y9] : (List Int))) el23 (.cons rfl (fun _ _ h => h) .nil) rfl rfl ?_)
        refine asr_inv h fun q15 h => ?_
        refine oT (t_appC (l := a_l) (m := ([y9] : (List Int))) ap23_23 rfl (fun _ _ h => h) rfl appv_isv .here q15 fun t14 => ?_)
        refine oV (v_assign rfl) ?_
        refine rl_nil ?_
        exact hJ12 _ (t14) h _ (join_imp 5 rfl rfl (mod_cons (j := 3) rfl (fun _ _ h => h) mod_nil) (.cons .here .nil))
       ·
        refine w_skip ?_
        exact hJ12 _ (t_a_l) h _ (join_imp 0 rfl rfl (mod_cons (j := 3) rfl (fun _ _ h => h) mod_nil) (.cons .here .nil))
    ·
     refine wkf ?_
     refine wsr ?_
     refine oV (v_assign rfl) ?_
     refine rnf ?_
     refine w_seq ?_
     refine wsr ?_
     refine oV (v_assign rfl) ?_
     refine rnf ?_
     refine w_block ?_
     refine w_lp (ι := (List Int) × Bool × Int) (γ := Tok) (fun q16 g16 => [(3, appv g16 (q16.1)), (12, isv (q16.2.1)), (13, isv (q16.2.2))]) (fun q16 g16 => [tokE g16]) h (t_a_l) (mod_cons (j := 3) rfl (fun _ _ h => h) (mod_cons (j := 12) rfl (fun _ _ h => h) (mod_cons (j := 13) rfl (fun _ _ h => h) mod_nil))) (.cons .here .nil) (fun L17 q16 g16 Q44 h hL17 eL17 rL17 => ?_)
     refine w_seq ?_
     refine wsr ?_
     refine oV (v_move rfl) ?_
     refine oV (v_fi rfl GNode.f5 fd83_5 rfl (z := y7.fields)) ?_
     refine oV (v_loadI ty81 rfl) ?_
     refine oV (v_ln (l := y7.fields) rfl (fun _ _ h => h) sl81) ?_
     refine oV (v_lss rfl rfl) ?_
     refine rnf ?_
     refine w_condM h rfl (fun _ h => ?_) (fun _ h => ?_)
     ·
      refine wkf ?_
      refine w_seq ?_
      refine w_block ?_
      refine wsr ?_
      refine oV (v_assign rfl) ?_
      refine rnf ?_
      refine w_seq ?_
      refine w_regionD (.v 0 (.v 1 (.v 2 (.v 3 (.v 4 (.v 5 (.v 6 (.v 7 (.v 8 (.v 9 (.t 10 (.v 11 (.v 12 (.v 13 (.v 14 (.v 15 .nil)))))))))))))))) moOrd (by kernel_rfl) ?_
      refine rd_v rfl (v_loadI ty26 rfl) ?_
      refine rd_v rfl (v_fi rfl GNode.f5 fd83_5 rfl (z := y7.fields)) ?_
      refine rd_v rfl (v_loadI ty81 rfl) ?_
      refine rd_v rfl (v_move rfl) ?_
      refine cal_inv h fun y28 hy28 h => ?_
      refine rd_v rfl (v_ix (l := y7.fields) rfl (fun _ _ h => h) rfl sl81 hy28) ?_
      refine rd_v rfl (v_fi rfl GFld.f1 fd97_1 rfl (z := y28.ty)) ?_
      refine rd_v rfl (v_loadI ty3 rfl) ?_
      refine rd_v rfl (v_move rfl) ?_
      refine ck_inv h fun q29 h => ?_
      refine rd_v rfl (v_add rfl rfl q29) ?_
      refine rd_v rfl (v_move rfl) ?_
      refine cal_inv h fun y30 hy30 h => ?_
      refine rd_t rfl rfl (t_call (h_r07_uses hy30) hT (.same rfl (.same rfl (.same rfl (.same rfl .nil)))) (.cons .here .nil) (fun R H' hR => ?_))
      obtain ⟨t31, rfl, rfl⟩ := hR
      refine rd_v rfl (v_move rfl) ?_
      refine rd_v rfl (v_extract rfl rfl) ?_
      refine rd_v rfl (v_extract rfl rfl) ?_
      refine rd_v rfl (v_assign rfl) ?_
      refine rd_v rfl (v_assign rfl) ?_
      refine rd_nil ?_
      refine fin_nxt ?_
      refine w_region ?_
      refine oV (v_move rfl) ?_
      refine oV (v_move rfl) ?_
      refine rl_j (ι := Bool) (γ := Unit) (fun q32 g32 => [(78, isv (q32))]) (fun q32 g32 => []) .nil h 2 rfl (fun q32 g32 h => ?_) (fun J33 h hJ33 => ?_)
      ·
       refine oV (v_assign rfl) ?_
       refine rl_nil ?_
       refine fin_block ?_
       refine fin_nxt ?_
       refine w_region ?_
       refine oV (v_move rfl) ?_
       refine ck_inv h fun q35 h => ?_
       refine oV (v_add rfl rfl q35) ?_
       refine oV (v_assign rfl) ?_
       refine rl_nil ?_
       exact hL17 _ (t31) h _ (join_imp 32 rfl rfl (mod_cons (j := 3) rfl (fun _ _ h => h) (mod_cons (j := 12) rfl (fun _ _ h => h) (mod_cons (j := 13) rfl (fun _ _ h => h) mod_nil))) (.cons .here .nil))
      ·
       refine rl_condM (j := 76) h rfl (fun g34 h => ?_) (fun g34 h => ?_)
       ·
        refine op_pass rfl (dj := 76) rfl g34 ?_
        refine oV (v_pick_t rfl g34 rfl) ?_
        exact hJ33 _ () h _ (join_imp 2 rfl rfl (mod_cons (j := 78) rfl (fun _ _ h => h) mod_nil) (.cons .here .nil))
       ·
        refine op_take rfl rfl (dj := 76) rfl g34 (OpV.t (v_move rfl) ?_)
        refine oV (v_pick_f rfl g34 rfl) ?_
        exact hJ33 _ () h _ (join_imp 2 rfl rfl (mod_cons (j := 78) rfl (fun _ _ h => h) mod_nil) (.cons .here .nil))
     ·
      refine w_exit ?_
      refine exi_nxt ?_
      refine eL17 _ _ ?_
      refine exi_block ?_
      refine fin_nxt ?_
      refine w_seq ?_
      refine wsr ?_
      refine oV (v_fi rfl GNode.f0 fd83_0 rfl (z := y7.kind)) ?_
      refine oV (v_loadI ty3 rfl) ?_
      refine oV (v_eql rfl rfl) ?_
      refine rnf ?_
      refine w_J (ι := (List Int) × Bool) (γ := Tok) (fun q36 g36 => [(3, appv g36 (q36.1)), (12, isv (q36.2))]) (fun q36 g36 => [tokE g36]) (.cons .here .nil) h (fun q36 g36 h => ?_) (fun J37 h hJ37 => ?_)
      ·
       refine wsr ?_
       refine oV (v_move rfl) ?_
       refine oV (v_move rfl) ?_
       refine oV (v_assign rfl) ?_
       refine oV (v_assign rfl) ?_
       refine rnf ?_
       refine w_ret ?_
       refine ret_post (.tmp rfl (.tmp rfl .nil)) (.cons .here .nil) ?_
       obtain rfl := Option.some.inj h
       exact ⟨g36, rfl, rfl⟩
      ·
       refine w_condM h rfl (fun _ h => ?_) (fun _ h => ?_)
       ·
        refine wsr ?_
        refine oV (v_assign rfl) ?_
        refine rnf ?_
        refine wsr ?_
        refine oV (v_loadI ty26 rfl) ?_
        refine oV (v_fi rfl GNode.f8 fd83_8 rfl (z := y7.of)) ?_
        refine oV (v_loadI ty3 rfl) ?_
        refine oV (v_move rfl) ?_
        refine ck_inv h fun q38 h => ?_
        refine oV (v_add rfl rfl q38) ?_
        refine oV (v_move rfl) ?_
        refine cal_inv h fun y39 hy39 h => ?_
        refine oT (t_call (h_r07_uses hy39) hT (.same rfl (.same rfl (.same rfl (.same rfl .nil)))) (.cons .here .nil) (fun R H' hR => ?_))
        obtain ⟨t40, rfl, rfl⟩ := hR
        refine oV (v_move rfl) ?_
        refine oV (v_extract rfl rfl) ?_
        refine oV (v_extract rfl rfl) ?_
        refine oV (v_assign rfl) ?_
        refine oV (v_assign rfl) ?_
        refine rnf ?_
        refine w_region ?_
        refine oV (v_move rfl) ?_
        refine oV (v_move rfl) ?_
        refine rl_j (ι := Bool) (γ := Unit) (fun q41 g41 => [(95, isv (q41))]) (fun q41 g41 => []) .nil h 2 rfl (fun q41 g41 h => ?_) (fun J42 h hJ42 => ?_)
        ·
         refine oV (v_assign rfl) ?_
         refine rl_nil ?_
         exact hJ37 _ (t40) h _ (join_imp 17 rfl rfl (mod_cons (j := 3) rfl (fun _ _ h => h) (mod_cons (j := 12) rfl (fun _ _ h => h) mod_nil)) (.cons .here .nil))
        ·
         refine rl_condM (j := 93) h rfl (fun g43 h => ?_) (fun g43 h => ?_)
         ·
          refine op_pass rfl (dj := 93) rfl g43 ?_
          refine oV (v_pick_t rfl g43 rfl) ?_
          exact hJ42 _ () h _ (join_imp 2 rfl rfl (mod_cons (j := 95) rfl (fun _ _ h => h) mod_nil) (.cons .here .nil))
         ·
          refine op_take rfl rfl (dj := 93) rfl g43 (OpV.t (v_move rfl) ?_)
          refine oV (v_pick_f rfl g43 rfl) ?_
          exact hJ42 _ () h _ (join_imp 2 rfl rfl (mod_cons (j := 95) rfl (fun _ _ h => h) mod_nil) (.cons .here .nil))
       ·
        refine w_skip ?_
        exact hJ37 _ (g16) h _ (join_imp 0 rfl rfl (mod_cons (j := 3) rfl (fun _ _ h => h) (mod_cons (j := 12) rfl (fun _ _ h => h) mod_nil)) (.cons .here .nil))
  ·
   refine rl_condM (j := 25) h rfl (fun g6 h => ?_) (fun g6 h => ?_)
   ·
    refine op_pass rfl (dj := 25) rfl g6 ?_
    refine op_pass rfl (dj := 25) rfl g6 ?_
    refine oV (v_pick_t rfl g6 rfl) ?_
    exact hJ5 _ () h _ (join_imp 3 rfl rfl (mod_cons (j := 28) rfl (fun _ _ h => h) mod_nil) (.cons .here .nil))
   ·
    refine op_take rfl rfl (dj := 25) rfl g6 (OpV.t (v_move rfl) ?_)
    refine op_take rfl rfl (dj := 25) rfl g6 (OpV.t (v_gtr rfl rfl) ?_)
    refine oV (v_pick_f rfl g6 rfl) ?_
    exact hJ5 _ () h _ (join_imp 3 rfl rfl (mod_cons (j := 28) rfl (fun _ _ h => h) mod_nil) (.cons .here .nil))
 ·
  refine rl_condM (j := 18) h rfl (fun g3 h => ?_) (fun g3 h => ?_)
  ·
   refine op_pass rfl (dj := 18) rfl g3 ?_
   refine op_pass rfl (dj := 18) rfl g3 ?_
   refine op_pass rfl (dj := 18) rfl g3 ?_
   refine op_pass rfl (dj := 18) rfl g3 ?_
   refine op_pass rfl (dj := 18) rfl g3 ?_
   refine oV (v_pick_t rfl g3 rfl) ?_
   exact hJ2 _ () h _ (join_imp 6 rfl rfl (mod_cons (j := 24) rfl (fun _ _ h => h) mod_nil) (.cons .here .nil))
  ·
   refine op_take rfl rfl (dj := 18) rfl g3 (OpV.t (v_move rfl) ?_)
   refine op_take rfl rfl (dj := 18) rfl g3 (OpV.t (v_fi rfl GMod.f4 fd26_4 rfl (z := a_m.nodes)) ?_)
   refine op_take rfl rfl (dj := 18) rfl g3 (OpV.t (v_loadI ty24 rfl) ?_)
   refine op_take rfl rfl (dj := 18) rfl g3 (OpV.t (v_ln (l := a_m.nodes) rfl (fun _ _ h => h) sl24) ?_)
   refine op_take rfl rfl (dj := 18) rfl g3 (OpV.t (v_geq rfl rfl) ?_)
   refine oV (v_pick_f rfl g3 rfl) ?_
   exact hJ2 _ () h _ (join_imp 6 rfl rfl (mod_cons (j := 24) rfl (fun _ _ h => h) mod_nil) (.cons .here .nil))

theorem r07_uses_grp_w : ∀ n, r07_uses_C (r07_uses n)
 | 0 => fun h => (by cases h)
 | n + 1 => r07_uses_w0 (r07_uses_grp_w n)
theorem r07_uses_w (n : Nat) : r07_uses_C (r07_uses n) := (r07_uses_grp_w n)
end Go.Proofs.YtdcdndflfhaejaaDoor


namespace Go.Proofs.YtdcdndflfhaejaaDoor
open Go.Sy
set_option maxRecDepth 4000
theorem r07_reach_w : ∀ {a_graph : (List (List Int))} {a_from_ : Int} {a_to : Int} {r : Bool}, r07_reach a_graph a_from_ a_to = some r → Ctr Tryd.prog 33 [isv (a_graph), isv (a_from_), isv (a_to)] [] (fun R H => R = oneOf [isv (r)] ∧ H = []) := by
 intro a_graph a_from_ a_to r h
 unfold r07_reach at h
 refine spec_intro Tryd.func33 rfl (by decide +kernel) (by rfl) fun w0 S0 hT => ?_
 refine wsr ?_
 refine oV (v_assign rfl) ?_
 refine rnf ?_
 refine wsr ?_
 refine oT (t_buildSlice (l := ([] : (List Int))) el23 .nil rfl rfl ?_)
 refine oV (v_assign rfl) ?_
 refine rnf ?_
 refine wsr ?_
 refine oV (v_move rfl) ?_
 refine oV (v_move rfl) ?_
 refine cal_inv h fun y2 hy2 h => ?_
 refine oV (v_ix (l := a_graph) rfl (fun _ _ h => h) rfl sl57 hy2) ?_
 refine oV (v_loadI ty23 rfl) ?_
 refine asr_inv h fun q4 h => ?_
 refine oT (t_appN (m := y2) ap23_23 rfl rfl (fun _ _ h => h) q4 fun t3 => ?_)
 refine oV (v_assign rfl) ?_
 refine rnf ?_
 refine w_seq ?_
 refine w_block ?_
 refine w_upd (upd_tok) ?_
 refine w_lp (ι := (List Int) × (List Int)) (γ := Tok × Tok) (fun q5 g5 => [(7, appv g5.1 (q5.1)), (8, appv g5.2 (q5.2))]) (fun q5 g5 => [tokE g5.1, tokE g5.2]) h (none, t3) (mod_cons (j := 7) rfl (fun _ _ h => h) (mod_cons (j := 8) rfl (fun _ _ h => h) mod_nil)) (.cons .here (.cons .here .nil)) (fun L6 q5 g5 Q27 h hL6 eL6 rL6 => ?_)
 refine w_seq ?_
 refine wsr ?_
 refine oV (v_move rfl) ?_
 refine oV (v_ln (l := q5.2) rfl appv_isv sl23) ?_
 refine oV (v_gtr rfl rfl) ?_
 refine rnf ?_
 refine w_condM h rfl (fun _ h => ?_) (fun _ h => ?_)
 ·
  refine wkf ?_
  refine w_block ?_
  refine wsr ?_
  refine oV (v_move rfl) ?_
  refine cal_inv h fun y17 hy17 h => ?_
  refine oV (v_ix (l := q5.2) rfl appv_isv rfl sl23 hy17) ?_
  refine oV (v_loadI ty3 rfl) ?_
  refine oV (v_assign rfl) ?_
  refine rnf ?_
  refine wsr ?_
  refine oV (v_move rfl) ?_
  refine asd_inv h fun q18 h => ?_
  refine oT (t_slA rfl sl23 rfl q18.1 q18.2 (.there .here) fun t19 => ?_)
  refine oV (v_assign rfl) ?_
  refine rnf ?_
  refine w_seq ?_
  refine wsr ?_
  refine oV (v_move rfl) ?_
  refine oV (v_move rfl) ?_
  refine oV (v_eql rfl rfl) ?_
  refine rnf ?_
  refine w_condM h rfl (fun _ h => ?_) (fun _ h => ?_)
  ·
   refine wsr ?_
   refine oV (v_assign rfl) ?_
   refine rnf ?_
   refine w_ret ?_
   refine ret_nxt ?_
   refine ret_block ?_
   refine rL6 _ ?_
   refine ret_block ?_
   refine ret_nxt ?_
   refine ret_post (.tmp rfl .nil) .nil ?_
   obtain rfl := Option.some.inj h
   exact ⟨rfl, rfl⟩
  ·
   refine wkf ?_
   refine wsr ?_
   refine oV (v_move rfl) ?_
   refine oV (v_move rfl) ?_
   refine cal_inv h fun y20 hy20 h => ?_
   refine oT (t_call (h_In_int_w hy20) hT (.cons rfl appv_isv (.same rfl .nil)) .nil (fun R H' hR => ?_))
   obtain ⟨rfl, rfl⟩ := hR
   refine oV (v_not rfl) ?_
   refine rnf ?_
   refine w_condM h rfl (fun _ h => ?_) (fun _ h => ?_)
   ·
    refine wsr ?_
    refine oV (v_move rfl) ?_
    refine oV (v_move rfl) ?_
    refine oT (t_buildSlice (l := ([y17] : (List Int))) el23 (.cons rfl (fun _ _ h => h) .nil) rfl rfl ?_)
    refine asr_inv h fun q23 h => ?_
    refine oT (t_appC (l := q5.1) (m := ([y17] : (List Int))) ap23_23 rfl (fun _ _ h => h) rfl appv_isv (.there .here) q23 fun t22 => ?_)
    refine oV (v_assign rfl) ?_
    refine rnf ?_
    refine w_region ?_
    refine oV (v_move rfl) ?_
    refine oV (v_move rfl) ?_
    refine oV (v_move rfl) ?_
    refine cal_inv h fun y24 hy24 h => ?_
    refine oV (v_ix (l := a_graph) rfl (fun _ _ h => h) rfl sl57 hy24) ?_
    refine oV (v_loadI ty23 rfl) ?_
    refine asr_inv h fun q26 h => ?_
    refine oT (t_appC (l := (q5.2.drop ((1 : Int)).toNat)) (m := y24) ap23_23 rfl (fun _ _ h => h) rfl (fun _ _ h => h) (.there .here) q26 fun t25 => ?_)
    refine oV (v_assign rfl) ?_
    refine rl_nil ?_
    refine fin_block ?_
    exact hL6 _ (t22, t25) h _ (join_imp 31 rfl rfl (mod_cons (j := 7) rfl (fun _ _ h => h) (mod_cons (j := 8) rfl (fun _ _ h => h) mod_nil)) (.cons (.there .here) (.cons .here .nil)))
   ·
    refine w_skip ?_
    refine fin_block ?_
    exact hL6 _ (g5.1, t19) h _ (join_imp 19 rfl rfl (mod_cons (j := 7) rfl (fun _ _ h => h) (mod_cons (j := 8) rfl (fun _ _ h => h) mod_nil)) (.cons (.there .here) (.cons .here .nil)))
 ·
  refine w_exit ?_
  refine exi_nxt ?_
  refine eL6 _ _ ?_
  refine exi_block ?_
  refine fin_nxt ?_
  refine wsr ?_
  refine oV (v_assign rfl) ?_
  refine rnf ?_
  refine w_ret ?_
  refine ret_post (.tmp rfl .nil) .nil ?_
  obtain rfl := Option.some.inj h
  exact ⟨rfl, rfl⟩


theorem r07_Order_w : ∀ {a_m : GMod} {r : (List Int) × Int × Int}, r07_Order a_m = some r → Ctr Tryd.prog 11 [isv (a_m)] [] (fun R H => R = oneOf [isv (r.1), isv (r.2.1), isv (r.2.2)] ∧ H = []) := by
 intro a_m r h
 unfold r07_Order at h
 refine spec_intro Tryd.func11 rfl (by decide +kernel) (by rfl) fun w0 S0 hT => ?_
 refine wsr ?_
 refine oT (t_boxIC (y := a_m) rfl (fun _ _ h => h) ?_)
 refine oV (v_assign rfl) ?_
 refine oV (v_assign rfl) ?_
 refine oV (v_assign rfl) ?_
 refine rnf ?_
 refine wsr ?_
 refine oV (v_assign rfl) ?_
 refine rnf ?_
 refine wsr ?_
 refine oV (v_assign rfl) ?_
 refine rnf ?_
 refine w_seq ?_
 refine wsr ?_
 refine oV (v_assign rfl) ?_
 refine rnf ?_
 refine w_block ?_
 refine w_lp (ι := Int) (γ := Unit) (fun q1 g1 => [(7, isv (q1))]) (fun q1 g1 => []) h () (mod_cons (j := 7) rfl (fun _ _ h => h) mod_nil) .nil (fun L2 q1 g1 Q1603 h hL2 eL2 rL2 => ?_)
 refine w_seq ?_
 refine wsr ?_
 refine oV (v_move rfl) ?_
 refine oV (v_fi rfl GMod.f2 fd26_2 rfl (z := a_m.names)) ?_
 refine oV (v_loadI ty22 rfl) ?_
 refine oV (v_ln (l := a_m.names) rfl (fun _ _ h => h) sl22) ?_
 refine oV (v_lss rfl rfl) ?_
 refine rnf ?_
 refine w_condM h rfl (fun _ h => ?_) (fun _ h => ?_)
 ·
  refine wkf ?_
  refine w_seq ?_
  refine w_block ?_
  refine w_seq ?_
  refine w_regionD (.v 0 (.v 1 (.v 2 (.v 3 (.v 4 (.v 5 (.v 6 (.v 7 (.v 8 (.t 9 .nil)))))))))) moOrd (by kernel_rfl) ?_
  refine rd_v rfl (v_fi rfl GMod.f2 fd26_2 rfl (z := a_m.names)) ?_
  refine rd_v rfl (v_loadI ty22 rfl) ?_
  refine rd_v rfl (v_move rfl) ?_
  refine asd_inv h fun q803 h => ?_
  refine rd_v rfl (v_sl (l := a_m.names) rfl (fun _ _ h => h) sl22 (.inl ⟨rfl, rfl⟩) (.inr ⟨_, rfl, rfl⟩) q803.1 q803.2.1 q803.2.2) ?_
  refine rd_v rfl (v_fi rfl GMod.f2 fd26_2 rfl (z := a_m.names)) ?_
  refine rd_v rfl (v_loadI ty22 rfl) ?_
  refine rd_v rfl (v_move rfl) ?_
  refine cal_inv h fun y804 hy804 h => ?_
  refine rd_v rfl (v_ix (l := a_m.names) rfl (fun _ _ h => h) rfl sl22 hy804) ?_
  refine rd_v rfl (v_loadI ty9 rfl) ?_
  refine cal_inv h fun y805 hy805 h => ?_
  refine rd_t rfl rfl (t_call (h_In_string_w hy805) hT (.same rfl (.same rfl .nil)) .nil (fun R H' hR => ?_))
  obtain ⟨rfl, rfl⟩ := hR
  refine rd_nil ?_
  refine fin_nxt ?_
  refine w_condM h rfl (fun _ h => ?_) (fun _ h => ?_)
  ·
   refine wsr ?_
   refine oV (v_move rfl) ?_
   refine oV (v_assign rfl) ?_
   refine oV (v_assign rfl) ?_
   refine oV (v_assign rfl) ?_
   refine rnf ?_
   refine w_ret ?_
   refine ret_block ?_
   refine ret_nxt ?_
   refine rL2 _ ?_
   refine ret_block ?_
   refine ret_nxt ?_
   refine ret_post (.as rfl (nilv_isv (α := Int)) (.tmp rfl (.tmp rfl .nil))) .nil ?_
   obtain rfl := Option.some.inj h
   exact ⟨rfl, rfl⟩
  ·
   refine w_skip ?_
   refine fin_block ?_
   refine fin_nxt ?_
   refine w_region ?_
   refine oV (v_move rfl) ?_
   refine ck_inv h fun q806 h => ?_
   refine oV (v_add rfl rfl q806) ?_
   refine oV (v_assign rfl) ?_
   refine rl_nil ?_
   exact hL2 _ () h _ (join_imp 19 rfl rfl (mod_cons (j := 7) rfl (fun _ _ h => h) mod_nil) .nil)
 ·
  refine w_exit ?_
  refine exi_nxt ?_
  refine eL2 _ _ ?_
  refine exi_block ?_
  refine fin_nxt ?_
  refine w_seq ?_
  refine wsr ?_
  refine oV (v_assign rfl) ?_
  refine rnf ?_
  refine w_block ?_
  refine w_upd (upd_tok) ?_
  refine w_lp (ι := (List (List Int)) × Int × Int) (γ := Tok) (fun q807 g807 => [(5, appv g807 (q807.1)), (6, isv (q807.2.1)), (8, isv (q807.2.2))]) (fun q807 g807 => [tokE g807]) h (none) (mod_cons (j := 5) rfl nilv_appv (mod_cons (j := 6) rfl (fun _ _ h => h) (mod_cons (j := 8) rfl (fun _ _ h => h) mod_nil))) (.cons .here .nil) (fun L808 q807 g807 Q1602 h hL808 eL808 rL808 => ?_)
  refine w_seq ?_
  refine wsr ?_
  refine oV (v_move rfl) ?_
  refine oV (v_fi rfl GMod.f2 fd26_2 rfl (z := a_m.names)) ?_
  refine oV (v_loadI ty22 rfl) ?_
  refine oV (v_ln (l := a_m.names) rfl (fun _ _ h => h) sl22) ?_
  refine oV (v_lss rfl rfl) ?_
  refine rnf ?_
  refine w_condM h rfl (fun _ h => ?_) (fun _ h => ?_)
  ·
   refine wkf ?_
   refine w_seq ?_
   refine w_J (ι := (List (List Int)) × Int) (γ := Tok) (fun q1337 g1337 => [(5, appv g1337 (q1337.1)), (6, isv (q1337.2))]) (fun q1337 g1337 => [tokE g1337]) (.cons .here .nil) h (fun q1337 g1337 h => ?_) (fun J1338 h hJ1338 => ?_)
   ·
    refine w_region ?_
    refine oV (v_move rfl) ?_
    refine ck_inv h fun q1349 h => ?_
    refine oV (v_add rfl rfl q1349) ?_
    refine oV (v_assign rfl) ?_
    refine rl_nil ?_
    exact hL808 _ (g1337) h _ (join_imp 13 rfl rfl (mod_cons (j := 5) rfl (fun _ _ h => h) (mod_cons (j := 6) rfl (fun _ _ h => h) (mod_cons (j := 8) rfl (fun _ _ h => h) mod_nil))) (.cons .here .nil))
   ·
    refine w_block ?_
    refine w_seq ?_
    refine w_regionD (.v 0 (.v 1 (.v 2 (.v 3 (.v 4 (.v 5 (.t 6 (.v 7 (.v 8 (.v 9 (.v 10 (.v 11 .nil)))))))))))) moOrd (by kernel_rfl) ?_
    refine rd_v rfl (v_loadI ty26 rfl) ?_
    refine rd_v rfl (v_fi rfl GMod.f3 fd26_3 rfl (z := a_m.types)) ?_
    refine rd_v rfl (v_loadI ty23 rfl) ?_
    refine rd_v rfl (v_move rfl) ?_
    refine cal_inv h fun y1339 hy1339 h => ?_
    refine rd_v rfl (v_ix (l := a_m.types) rfl (fun _ _ h => h) rfl sl23 hy1339) ?_
    refine rd_v rfl (v_loadI ty3 rfl) ?_
    refine rd_upd (upd_tok) ?_
    refine cal_inv h fun y1341 hy1341 h => ?_
    refine rd_t rfl rfl (t_call (r07_uses_w fuel hy1341) hT (.same rfl (.same rfl (.same rfl (.cons rfl nilv_appv .nil)))) (.cons .here .nil) (fun R H' hR => ?_))
    obtain ⟨t1342, rfl, rfl⟩ := hR
    refine rd_v rfl (v_move rfl) ?_
    refine rd_v rfl (v_extract rfl rfl) ?_
    refine rd_v rfl (v_extract rfl rfl) ?_
    refine rd_v rfl (v_assign rfl) ?_
    refine rd_v rfl (v_assign rfl) ?_
    refine rd_nil ?_
    refine fin_nxt ?_
    refine wsr ?_
    refine oV (v_move rfl) ?_
    refine oV (v_move rfl) ?_
    refine oT (t_buildSlice (l := ([y1341.1] : (List (List Int)))) el57 (.cons rfl appv_isv .nil) rfl rfl ?_)
    refine asr_inv h fun q1345 h => ?_
    refine oT (t_appC (l := q807.1) (m := ([y1341.1] : (List (List Int)))) ap57_57 rfl (fun _ _ h => h) rfl appv_isv (.there .here) q1345 fun t1344 => ?_)
    refine oV (v_assign rfl) ?_
    refine rnf ?_
    refine wsr ?_
    refine oV (v_move rfl) ?_
    refine oV (v_move rfl) ?_
    refine rl_j (ι := Bool) (γ := Unit) (fun q1346 g1346 => [(59, isv (q1346))]) (fun q1346 g1346 => []) .nil h 3 rfl (fun q1346 g1346 h => ?_) (fun J1347 h hJ1347 => ?_)
    ·
     refine rnf ?_
     refine w_condM h rfl (fun _ h => ?_) (fun _ h => ?_)
     ·
      refine w_region ?_
      refine oV (v_move rfl) ?_
      refine oV (v_assign rfl) ?_
      refine rl_nil ?_
      refine fin_block ?_
      exact hJ1338 _ (t1344) h _ (join_imp 22 rfl rfl (mod_cons (j := 5) rfl (fun _ _ h => h) (mod_cons (j := 6) rfl (fun _ _ h => h) mod_nil)) (.cons .here .nil))
     ·
      refine w_skip ?_
      refine fin_block ?_
      exact hJ1338 _ (t1344) h _ (join_imp 20 rfl rfl (mod_cons (j := 5) rfl (fun _ _ h => h) (mod_cons (j := 6) rfl (fun _ _ h => h) mod_nil)) (.cons .here .nil))
    ·
     refine rl_condM (j := 56) h rfl (fun g1348 h => ?_) (fun g1348 h => ?_)
     ·
      refine op_take rfl rfl (dj := 56) rfl g1348 (OpV.t (v_move rfl) ?_)
      refine op_take rfl rfl (dj := 56) rfl g1348 (OpV.t (v_lss rfl rfl) ?_)
      refine oV (v_pick_t rfl g1348 rfl) ?_
      exact hJ1347 _ () h _ (join_imp 3 rfl rfl (mod_cons (j := 59) rfl (fun _ _ h => h) mod_nil) (.cons .here (.cons .here .nil)))
     ·
      refine op_pass rfl (dj := 56) rfl g1348 ?_
      refine op_pass rfl (dj := 56) rfl g1348 ?_
      refine oV (v_pick_f rfl g1348 rfl) ?_
      exact hJ1347 _ () h _ (join_imp 3 rfl rfl (mod_cons (j := 59) rfl (fun _ _ h => h) mod_nil) (.cons .here (.cons .here .nil)))
  ·
   refine w_exit ?_
   refine exi_nxt ?_
   refine eL808 _ _ ?_
   refine exi_block ?_
   refine fin_nxt ?_
   refine w_seq ?_
   refine wsr ?_
   refine oV (v_move rfl) ?_
   refine oV (v_geq rfl rfl) ?_
   refine rnf ?_
   refine w_condM h rfl (fun _ h => ?_) (fun _ h => ?_)
   ·
    refine wsr ?_
    refine oV (v_move rfl) ?_
    refine oV (v_assign rfl) ?_
    refine oV (v_assign rfl) ?_
    refine oV (v_assign rfl) ?_
    refine rnf ?_
    refine w_ret ?_
    refine ret_nxt ?_
    refine ret_post (.as rfl (nilv_isv (α := Int)) (.tmp rfl (.tmp rfl .nil))) .nil ?_
    obtain rfl := Option.some.inj h
    exact ⟨rfl, rfl⟩
   ·
    refine wkf ?_
    refine w_seq ?_
    refine wsr ?_
    refine oV (v_assign rfl) ?_
    refine rnf ?_
    refine w_block ?_
    refine w_lp (ι := Int) (γ := Unit) (fun q1350 g1350 => [(11, isv (q1350))]) (fun q1350 g1350 => []) h () (mod_cons (j := 11) rfl (fun _ _ h => h) mod_nil) .nil (fun L1351 q1350 g1350 Q1600 h hL1351 eL1351 rL1351 => ?_)
    refine w_seq ?_
    refine wsr ?_
    refine oV (v_move rfl) ?_
    refine oV (v_fi rfl GMod.f2 fd26_2 rfl (z := a_m.names)) ?_
    refine oV (v_loadI ty22 rfl) ?_
    refine oV (v_ln (l := a_m.names) rfl (fun _ _ h => h) sl22) ?_
    refine oV (v_lss rfl rfl) ?_
    refine rnf ?_
    refine w_condM h rfl (fun _ h => ?_) (fun _ h => ?_)
    ·
     refine wkf ?_
     refine w_seq ?_
     refine w_block ?_
     refine wsr ?_
     refine oV (v_move rfl) ?_
     refine oV (v_move rfl) ?_
     refine oV (v_move rfl) ?_
     refine cal_inv h fun y1476 hy1476 h => ?_
     refine oT (t_call (r07_reach_w hy1476) hT (.cons rfl appv_isv (.same rfl (.same rfl .nil))) .nil (fun R H' hR => ?_))
     obtain ⟨rfl, rfl⟩ := hR
     refine rnf ?_
     refine w_condM h rfl (fun _ h => ?_) (fun _ h => ?_)
     ·
      refine wsr ?_
      refine oV (v_move rfl) ?_
      refine oV (v_assign rfl) ?_
      refine oV (v_assign rfl) ?_
      refine oV (v_assign rfl) ?_
      refine rnf ?_
      refine w_ret ?_
      refine ret_block ?_
      refine ret_nxt ?_
      refine rL1351 _ ?_
      refine ret_block ?_
      refine ret_nxt ?_
      refine ret_post (.as rfl (nilv_isv (α := Int)) (.tmp rfl (.tmp rfl .nil))) .nil ?_
      obtain rfl := Option.some.inj h
      exact ⟨rfl, rfl⟩
     ·
      refine w_skip ?_
      refine fin_block ?_
      refine fin_nxt ?_
      refine w_region ?_
      refine oV (v_move rfl) ?_
      refine ck_inv h fun q1477 h => ?_
      refine oV (v_add rfl rfl q1477) ?_
      refine oV (v_assign rfl) ?_
      refine rl_nil ?_
      exact hL1351 _ () h _ (join_imp 13 rfl rfl (mod_cons (j := 11) rfl (fun _ _ h => h) mod_nil) (.cons .here .nil))
    ·
     refine w_exit ?_
     refine exi_nxt ?_
     refine eL1351 _ _ ?_
     refine exi_block ?_
     refine fin_nxt ?_
     refine wsr ?_
     refine oV (v_assign rfl) ?_
     refine rnf ?_
     refine w_seq ?_
     refine w_block ?_
     refine w_upd (upd_tok) ?_
     refine w_lp (ι := (List Int)) (γ := Tok) (fun q1478 g1478 => [(12, appv g1478 (q1478))]) (fun q1478 g1478 => [tokE g1478]) h (none) (mod_cons (j := 12) rfl nilv_appv mod_nil) (.cons .here .nil) (fun L1479 q1478 g1478 Q1599 h hL1479 eL1479 rL1479 => ?_)
     refine w_seq ?_
     refine wsr ?_
     refine oV (v_move rfl) ?_
     refine oV (v_ln (l := q1478) rfl appv_isv sl23) ?_
     refine oV (v_fi rfl GMod.f2 fd26_2 rfl (z := a_m.names)) ?_
     refine oV (v_loadI ty22 rfl) ?_
     refine oV (v_ln (l := a_m.names) rfl (fun _ _ h => h) sl22) ?_
     refine oV (v_lss rfl rfl) ?_
     refine rnf ?_
     refine w_condM h rfl (fun _ h => ?_) (fun _ h => ?_)
     ·
      refine wkf ?_
      refine w_block ?_
      refine wsr ?_
      refine oV (v_assign rfl) ?_
      refine rnf ?_
      refine w_block ?_
      refine w_lp (ι := Int) (γ := Unit) (fun q1539 g1539 => [(13, isv (q1539))]) (fun q1539 g1539 => []) h () (mod_cons (j := 13) rfl (fun _ _ h => h) mod_nil) .nil (fun L1540 q1539 g1539 Q1597 h hL1540 eL1540 rL1540 => ?_)
      refine w_seq ?_
      refine wsr ?_
      refine oV (v_move rfl) ?_
      refine oV (v_fi rfl GMod.f2 fd26_2 rfl (z := a_m.names)) ?_
      refine oV (v_loadI ty22 rfl) ?_
      refine oV (v_ln (l := a_m.names) rfl (fun _ _ h => h) sl22) ?_
      refine oV (v_lss rfl rfl) ?_
      refine rnf ?_
      refine w_condM h rfl (fun _ h => ?_) (fun _ h => ?_)
      ·
       refine wkf ?_
       refine w_seq ?_
       refine w_block ?_
       refine wsr ?_
       refine oV (v_move rfl) ?_
       refine oV (v_move rfl) ?_
       refine cal_inv h fun y1569 hy1569 h => ?_
       refine oT (t_call (h_In_int_w hy1569) hT (.cons rfl appv_isv (.same rfl .nil)) .nil (fun R H' hR => ?_))
       obtain ⟨rfl, rfl⟩ := hR
       refine oV (v_not rfl) ?_
       refine oV (v_assign rfl) ?_
       refine rnf ?_
       refine w_seq ?_
       refine wsr ?_
       refine oV (v_assign rfl) ?_
       refine rnf ?_
       refine w_block ?_
       refine w_lp (ι := Bool × Int) (γ := Unit) (fun q1570 g1570 => [(14, isv (q1570.1)), (15, isv (q1570.2))]) (fun q1570 g1570 => []) h () (mod_cons (j := 14) rfl (fun _ _ h => h) (mod_cons (j := 15) rfl (fun _ _ h => h) mod_nil)) .nil (fun L1571 q1570 g1570 Q1596 h hL1571 eL1571 rL1571 => ?_)
       refine w_seq ?_
       refine wsr ?_
       refine oV (v_move rfl) ?_
       refine oV (v_move rfl) ?_
       refine oV (v_move rfl) ?_
       refine cal_inv h fun y1584 hy1584 h => ?_
       refine oV (v_ix (l := q807.1) rfl appv_isv rfl sl57 hy1584) ?_
       refine oV (v_loadI ty23 rfl) ?_
       refine oV (v_ln (l := y1584) rfl (fun _ _ h => h) sl23) ?_
       refine oV (v_lss rfl rfl) ?_
       refine rnf ?_
       refine w_condM h rfl (fun _ h => ?_) (fun _ h => ?_)
       ·
        refine wkf ?_
        refine w_seq ?_
        refine w_block ?_
        refine w_region ?_
        refine oV (v_move rfl) ?_
        refine oV (v_move rfl) ?_
        refine rl_j (ι := Bool) (γ := Unit) (fun q1585 g1585 => [(113, isv (q1585))]) (fun q1585 g1585 => []) .nil h 10 rfl (fun q1585 g1585 h => ?_) (fun J1586 h hJ1586 => ?_)
        ·
         refine oV (v_assign rfl) ?_
         refine rl_nil ?_
         refine fin_block ?_
         refine fin_nxt ?_
         refine w_region ?_
         refine oV (v_move rfl) ?_
         refine ck_inv h fun q1591 h => ?_
         refine oV (v_add rfl rfl q1591) ?_
         refine oV (v_assign rfl) ?_
         refine rl_nil ?_
         exact hL1571 _ () h _ (join_imp 16 rfl rfl (mod_cons (j := 14) rfl (fun _ _ h => h) (mod_cons (j := 15) rfl (fun _ _ h => h) mod_nil)) (.cons .here (.cons .here .nil)))
        ·
         refine rl_condM (j := 103) h rfl (fun g1587 h => ?_) (fun g1587 h => ?_)
         ·
          refine op_take rfl rfl (dj := 103) rfl g1587 (OpV.t (v_move rfl) ?_)
          refine op_take rfl rfl (dj := 103) rfl g1587 (OpV.t (v_move rfl) ?_)
          refine op_take rfl rfl (dj := 103) rfl g1587 (OpV.t (v_move rfl) ?_)
          refine cal_inv h fun y1588 hy1588 h => ?_
          refine op_take rfl rfl (dj := 103) rfl g1587 (OpV.t (v_ix (l := q807.1) rfl appv_isv rfl sl57 hy1588) ?_)
          refine op_take rfl rfl (dj := 103) rfl g1587 (OpV.t (v_loadI ty23 rfl) ?_)
          refine op_take rfl rfl (dj := 103) rfl g1587 (OpV.t (v_move rfl) ?_)
          refine cal_inv h fun y1589 hy1589 h => ?_
          refine op_take rfl rfl (dj := 103) rfl g1587 (OpV.t (v_ix (l := y1588) rfl (fun _ _ h => h) rfl sl23 hy1589) ?_)
          refine op_take rfl rfl (dj := 103) rfl g1587 (OpV.t (v_loadI ty3 rfl) ?_)
          refine cal_inv h fun y1590 hy1590 h => ?_
          refine op_take rfl rfl (dj := 103) rfl g1587 (t_call (h_In_int_w hy1590) hT (.cons rfl appv_isv (.same rfl .nil)) .nil (fun R H' hR => ?_))
          obtain ⟨rfl, rfl⟩ := hR
          refine oV (v_pick_t rfl g1587 rfl) ?_
          exact hJ1586 _ () h _ (join_imp 10 rfl rfl (mod_cons (j := 113) rfl (fun _ _ h => h) mod_nil) (.cons .here (.cons .here .nil)))
         ·
          refine op_pass rfl (dj := 103) rfl g1587 ?_
          refine op_pass rfl (dj := 103) rfl g1587 ?_
          refine op_pass rfl (dj := 103) rfl g1587 ?_
          refine op_pass rfl (dj := 103) rfl g1587 ?_
          refine op_pass rfl (dj := 103) rfl g1587 ?_
          refine op_pass rfl (dj := 103) rfl g1587 ?_
          refine op_pass rfl (dj := 103) rfl g1587 ?_
          refine op_pass rfl (dj := 103) rfl g1587 ?_
          refine op_pass rfl (dj := 103) rfl g1587 ?_
          refine oV (v_pick_f rfl g1587 rfl) ?_
          exact hJ1586 _ () h _ (join_imp 10 rfl rfl (mod_cons (j := 113) rfl (fun _ _ h => h) mod_nil) (.cons .here (.cons .here .nil)))
       ·
        refine w_exit ?_
        refine exi_nxt ?_
        refine eL1571 _ _ ?_
        refine exi_block ?_
        refine fin_nxt ?_
        refine wsr ?_
        refine oV (v_move rfl) ?_
        refine rnf ?_
        refine w_condM h rfl (fun _ h => ?_) (fun _ h => ?_)
        ·
         refine wsr ?_
         refine oV (v_move rfl) ?_
         refine oV (v_move rfl) ?_
         refine oT (t_buildSlice (l := ([q1539] : (List Int))) el23 (.cons rfl (fun _ _ h => h) .nil) rfl rfl ?_)
         refine asr_inv h fun q1594 h => ?_
         refine oT (t_appC (l := q1478) (m := ([q1539] : (List Int))) ap23_23 rfl (fun _ _ h => h) rfl appv_isv .here q1594 fun t1593 => ?_)
         refine oV (v_assign rfl) ?_
         refine rnf ?_
         refine w_exit ?_
         refine exi_pass rfl ?_
         refine exi_nxt ?_
         refine eL1540 _ _ ?_
         refine exi_block ?_
         refine fin_block ?_
         exact hL1479 _ (t1593) h _ (join_imp 35 rfl rfl (mod_cons (j := 12) rfl (fun _ _ h => h) mod_nil) (.cons .here (.cons .here .nil)))
        ·
         refine w_skip ?_
         refine fin_block ?_
         refine fin_nxt ?_
         refine w_region ?_
         refine oV (v_move rfl) ?_
         refine ck_inv h fun q1595 h => ?_
         refine oV (v_add rfl rfl q1595) ?_
         refine oV (v_assign rfl) ?_
         refine rl_nil ?_
         exact hL1540 _ () h _ (join_imp 25 rfl rfl (mod_cons (j := 13) rfl (fun _ _ h => h) mod_nil) (.cons .here (.cons .here .nil)))
      ·
       refine w_exit ?_
       refine exi_nxt ?_
       refine eL1540 _ _ ?_
       refine exi_block ?_
       refine fin_block ?_
       exact hL1479 _ (g1478) h _ (join_imp 14 rfl rfl (mod_cons (j := 12) rfl (fun _ _ h => h) mod_nil) (.cons .here (.cons .here .nil)))
     ·
      refine w_exit ?_
      refine exi_nxt ?_
      refine eL1479 _ _ ?_
      refine exi_block ?_
      refine fin_nxt ?_
      refine wsr ?_
      refine oV (v_move rfl) ?_
      refine oV (v_assign rfl) ?_
      refine oV (v_assign rfl) ?_
      refine oV (v_assign rfl) ?_
      refine rnf ?_
      refine w_ret ?_
      refine ret_post (.as rfl appv_isv (.tmp rfl (.tmp rfl .nil))) .nil ?_
      obtain rfl := Option.some.inj h
      exact ⟨rfl, rfl⟩


theorem r07_Uses_w : ∀ {a_m : GMod} {a_node : Int} {r : (List Int)}, r07_Uses a_m a_node = some r → Ctr Tryd.prog 16 [isv (a_m), isv (a_node)] [] (fun R H => R = oneOf [isv (r)] ∧ H = []) := by
 intro a_m a_node r h
 unfold r07_Uses at h
 refine spec_intro Tryd.func16 rfl (by decide +kernel) (by rfl) fun w0 S0 hT => ?_
 refine wsr ?_
 refine oT (t_boxIC (y := a_m) rfl (fun _ _ h => h) ?_)
 refine oV (v_assign rfl) ?_
 refine rnf ?_
 refine wsr ?_
 refine oV (v_loadI ty26 rfl) ?_
 refine oV (v_move rfl) ?_
 refine rl_upd (upd_tok) ?_
 refine cal_inv h fun y2 hy2 h => ?_
 refine oT (t_call (r07_uses_w fuel hy2) hT (.same rfl (.same rfl (.same rfl (.cons rfl nilv_appv .nil)))) (.cons .here .nil) (fun R H' hR => ?_))
 obtain ⟨t3, rfl, rfl⟩ := hR
 refine oV (v_move rfl) ?_
 refine oV (v_extract rfl rfl) ?_
 refine oV (v_extract rfl rfl) ?_
 refine oV (v_assign rfl) ?_
 refine oV (v_assign rfl) ?_
 refine rnf ?_
 refine wsr ?_
 refine oV (v_move rfl) ?_
 refine oV (v_assign rfl) ?_
 refine rnf ?_
 refine w_ret ?_
 refine ret_post (.as rfl appv_isv .nil) .nil ?_
 obtain rfl := Option.some.inj h
 exact ⟨rfl, rfl⟩


theorem h_Plain_int_c1_w : ∀ {a_x : Int} {a_y : Int} {r : Bool}, h_Plain_int_c1 a_x a_y = some r → Ctr Tryd.prog 36 [isv (a_x), isv (a_y)] [] (fun R H => R = oneOf [isv (r)] ∧ H = []) := by
 intro a_x a_y r h
 unfold h_Plain_int_c1 at h
 refine spec_intro Tryd.func36 rfl (by decide +kernel) (by rfl) fun w0 S0 hT => ?_
 refine wsr ?_
 refine oV (v_assign rfl) ?_
 refine rnf ?_
 refine wsr ?_
 refine oV (v_move rfl) ?_
 refine oV (v_move rfl) ?_
 refine oV (v_eql rfl rfl) ?_
 refine oV (v_assign rfl) ?_
 refine rnf ?_
 refine w_ret ?_
 refine ret_post (.tmp rfl .nil) .nil ?_
 obtain rfl := Option.some.inj h
 exact ⟨rfl, rfl⟩


theorem h_Same_int_w : ∀ {a_a : (List Int)} {a_b : (List Int)} {r : Bool}, h_Same_int a_a a_b = some r → Ctr Tryd.prog 35 [isv (a_a), isv (a_b), clov 36 []] [] (fun R H => R = oneOf [isv (r)] ∧ H = []) := by
 intro a_a a_b r h
 unfold h_Same_int at h
 refine spec_intro Tryd.func35 rfl (by decide +kernel) (by rfl) fun w0 S0 hT => ?_
 refine wsr ?_
 refine oV (v_assign rfl) ?_
 refine rnf ?_
 refine w_seq ?_
 refine wsr ?_
 refine oV (v_move rfl) ?_
 refine oV (v_ln (l := a_a) rfl (fun _ _ h => h) sl23) ?_
 refine oV (v_move rfl) ?_
 refine oV (v_ln (l := a_b) rfl (fun _ _ h => h) sl23) ?_
 refine oV (v_neq rfl rfl) ?_
 refine rnf ?_
 refine w_condM h rfl (fun _ h => ?_) (fun _ h => ?_)
 ·
  refine wsr ?_
  refine oV (v_assign rfl) ?_
  refine rnf ?_
  refine w_ret ?_
  refine ret_nxt ?_
  refine ret_post (.tmp rfl .nil) .nil ?_
  obtain rfl := Option.some.inj h
  exact ⟨rfl, rfl⟩
 ·
  refine wkf ?_
  refine w_seq ?_
  refine wsr ?_
  refine oV (v_assign rfl) ?_
  refine rnf ?_
  refine w_block ?_
  refine w_lp (ι := Int) (γ := Unit) (fun q1 g1 => [(7, isv (q1))]) (fun q1 g1 => []) h () (mod_cons (j := 7) rfl (fun _ _ h => h) mod_nil) .nil (fun L2 q1 g1 Q11 h hL2 eL2 rL2 => ?_)
  refine w_seq ?_
  refine wsr ?_
  refine oV (v_move rfl) ?_
  refine oV (v_move rfl) ?_
  refine oV (v_ln (l := a_a) rfl (fun _ _ h => h) sl23) ?_
  refine oV (v_lss rfl rfl) ?_
  refine rnf ?_
  refine w_condM h rfl (fun _ h => ?_) (fun _ h => ?_)
  ·
   refine wkf ?_
   refine w_seq ?_
   refine w_block ?_
   refine w_seq ?_
   refine w_regionD (.v 0 (.v 1 (.v 2 (.v 3 (.v 4 (.v 5 (.v 6 (.v 7 (.v 8 (.t 9 (.v 10 .nil))))))))))) moOrd (by kernel_rfl) ?_
   refine rd_v rfl (v_move rfl) ?_
   refine rd_v rfl (v_move rfl) ?_
   refine rd_v rfl (v_move rfl) ?_
   refine cal_inv h fun y7 hy7 h => ?_
   refine rd_v rfl (v_ix (l := a_a) rfl (fun _ _ h => h) rfl sl23 hy7) ?_
   refine rd_v rfl (v_loadI ty3 rfl) ?_
   refine rd_v rfl (v_move rfl) ?_
   refine rd_v rfl (v_move rfl) ?_
   refine cal_inv h fun y8 hy8 h => ?_
   refine rd_v rfl (v_ix (l := a_b) rfl (fun _ _ h => h) rfl sl23 hy8) ?_
   refine rd_v rfl (v_loadI ty3 rfl) ?_
   refine cal_inv h fun y9 hy9 h => ?_
   refine rd_t rfl rfl (t_callC rfl (.same rfl (.same rfl .nil)) (h_Plain_int_c1_w hy9) hT .nil (fun R H' hR => ?_))
   obtain ⟨rfl, rfl⟩ := hR
   refine rd_v rfl (v_not rfl) ?_
   refine rd_nil ?_
   refine fin_nxt ?_
   refine w_condM h rfl (fun _ h => ?_) (fun _ h => ?_)
   ·
    refine wsr ?_
    refine oV (v_assign rfl) ?_
    refine rnf ?_
    refine w_ret ?_
    refine ret_block ?_
    refine ret_nxt ?_
    refine rL2 _ ?_
    refine ret_block ?_
    refine ret_nxt ?_
    refine ret_post (.tmp rfl .nil) .nil ?_
    obtain rfl := Option.some.inj h
    exact ⟨rfl, rfl⟩
   ·
    refine w_skip ?_
    refine fin_block ?_
    refine fin_nxt ?_
    refine w_region ?_
    refine oV (v_move rfl) ?_
    refine ck_inv h fun q10 h => ?_
    refine oV (v_add rfl rfl q10) ?_
    refine oV (v_assign rfl) ?_
    refine rl_nil ?_
    exact hL2 _ () h _ (join_imp 19 rfl rfl (mod_cons (j := 7) rfl (fun _ _ h => h) mod_nil) .nil)
  ·
   refine w_exit ?_
   refine exi_nxt ?_
   refine eL2 _ _ ?_
   refine exi_block ?_
   refine fin_nxt ?_
   refine wsr ?_
   refine oV (v_assign rfl) ?_
   refine rnf ?_
   refine w_ret ?_
   refine ret_post (.tmp rfl .nil) .nil ?_
   obtain rfl := Option.some.inj h
   exact ⟨rfl, rfl⟩


theorem h_Plain_int_w : ∀ {a_a : (List Int)} {a_b : (List Int)} {r : Bool}, h_Plain_int a_a a_b = some r → Ctr Tryd.prog 14 [isv (a_a), isv (a_b)] [] (fun R H => R = oneOf [isv (r)] ∧ H = []) := by
 intro a_a a_b r h
 unfold h_Plain_int at h
 refine spec_intro Tryd.func14 rfl (by decide +kernel) (by rfl) fun w0 S0 hT => ?_
 refine wsr ?_
 refine oV (v_assign rfl) ?_
 refine rnf ?_
 refine wsr ?_
 refine oV (v_move rfl) ?_
 refine oV (v_move rfl) ?_
 refine cal_inv h fun y1 hy1 h => ?_
 refine oT (t_call (h_Same_int_w hy1) hT (.same rfl (.same rfl (.same rfl .nil))) .nil (fun R H' hR => ?_))
 obtain ⟨rfl, rfl⟩ := hR
 refine oV (v_assign rfl) ?_
 refine rnf ?_
 refine w_ret ?_
 refine ret_post (.tmp rfl .nil) .nil ?_
 obtain rfl := Option.some.inj h
 exact ⟨rfl, rfl⟩


theorem law07_RefsTell_w : ∀ {a_text : Str} {a_name : Str} {a_node : Int} {r : Bool}, law07_RefsTell a_text a_name a_node = some r → Ctr Tryd.prog 3 [isv (a_text), isv (a_name), isv (a_node)] [] (fun R H => R = oneOf [isv (r)] ∧ H = []) := by
 intro a_text a_name a_node r h
 unfold law07_RefsTell at h
 refine spec_intro Tryd.func3 rfl (by decide +kernel) (by rfl) fun w0 S0 hT => ?_
 refine wsr ?_
 refine oV (v_assign rfl) ?_
 refine rnf ?_
 refine wsr ?_
 refine oV (v_move rfl) ?_
 refine cal_inv h fun y1 hy1 h => ?_
 refine oT (t_call (r05_Parse_w hy1) hT (.same rfl .nil) .nil (fun R H' hR => ?_))
 obtain ⟨rfl, rfl⟩ := hR
 refine oV (v_move rfl) ?_
 refine oV (v_extract rfl rfl) ?_
 refine oV (v_extract rfl rfl) ?_
 refine oV (v_extract rfl rfl) ?_
 refine oT (t_alloc _ ze26 fun b2 => ?_)
 refine oT (t_storeC (y' := (y1.1 : GMod)) ty26 rfl rfl (fun _ _ h => h) .here rfl ?_)
 refine rl_upd (upd_imm 7 .here rfl) ?_
 refine oV (v_assign rfl) ?_
 refine oV (v_assign rfl) ?_
 refine rnf ?_
 refine w_seq ?_
 refine wsr ?_
 refine oV (v_move rfl) ?_
 refine oV (v_lenS st9 rfl) ?_
 refine oV (v_gtr rfl rfl) ?_
 refine oV (v_move rfl) ?_
 refine rl_j (ι := Bool) (γ := Unit) (fun q3 g3 => [(28, isv (q3))]) (fun q3 g3 => []) .nil h 3 rfl (fun q3 g3 h => ?_) (fun J4 h hJ4 => ?_)
 ·
  refine rnf ?_
  refine w_condM h rfl (fun _ h => ?_) (fun _ h => ?_)
  ·
   refine wsr ?_
   refine cal_inv h fun y6 hy6 h => ?_
   refine oT (t_call (law07_awake_w hy6) hT .nil .nil (fun R H' hR => ?_))
   obtain ⟨rfl, rfl⟩ := hR
   refine oV (v_assign rfl) ?_
   refine rnf ?_
   refine w_ret ?_
   refine ret_nxt ?_
   refine ret_post (.tmp rfl .nil) .nil ?_
   obtain rfl := Option.some.inj h
   exact ⟨rfl, rfl⟩
  ·
   refine wkf ?_
   refine wsr ?_
   refine oV (v_loadI ty26 rfl) ?_
   refine cal_inv h fun y7 hy7 h => ?_
   refine oT (t_call (refs_Order_w hy7) hT (.same rfl .nil) .nil (fun R H' hR => ?_))
   obtain ⟨rfl, rfl⟩ := hR
   refine oV (v_move rfl) ?_
   refine oV (v_extract rfl rfl) ?_
   refine oV (v_extract rfl rfl) ?_
   refine oV (v_extract rfl rfl) ?_
   refine oV (v_assign rfl) ?_
   refine oV (v_assign rfl) ?_
   refine oV (v_assign rfl) ?_
   refine rnf ?_
   refine wsr ?_
   refine oV (v_loadI ty26 rfl) ?_
   refine cal_inv h fun y8 hy8 h => ?_
   refine oT (t_call (r07_Order_w hy8) hT (.same rfl .nil) .nil (fun R H' hR => ?_))
   obtain ⟨rfl, rfl⟩ := hR
   refine oV (v_move rfl) ?_
   refine oV (v_extract rfl rfl) ?_
   refine oV (v_extract rfl rfl) ?_
   refine oV (v_extract rfl rfl) ?_
   refine oV (v_assign rfl) ?_
   refine oV (v_assign rfl) ?_
   refine oV (v_assign rfl) ?_
   refine rnf ?_
   refine w_seq ?_
   refine w_regionD (.t 0 (.v 1 (.v 2 (.v 3 (.v 5 (.v 6 (.t 4 (.t 7 (.v 8 (.v 9 (.v 10 (.v 11 (.v 12 (.v 14 (.v 15 (.t 13 (.t 16 (.t 17 (.v 18 (.v 19 (.v 20 (.v 21 (.t 22 (.v 23 (.v 24 (.v 25 (.v 26 (.v 27 (.v 28 (.v 29 (.v 30 (.v 31 (.v 32 (.v 33 (.v 34 .nil))))))))))))))))))))))))))))))))))) moOrd (by kernel_rfl) ?_
   refine cal_inv h fun y9 hy9 h => ?_
   refine rd_t rfl rfl (t_call (law07_awake_w hy9) hT .nil .nil (fun R H' hR => ?_))
   obtain ⟨rfl, rfl⟩ := hR
   refine rd_v rfl (v_move rfl) ?_
   refine rd_j (ι := Bool) (γ := Unit) (fun q10 g10 => [(51, isv (q10))]) (fun q10 g10 => []) .nil h 8 rfl (fun q10 g10 h => ?_) (fun J11 h hJ11 => ?_)
   ·
    refine rd_v rfl (v_move rfl) ?_
    refine rd_j (ι := Bool) (γ := Unit) (fun q15 g15 => [(60, isv (q15))]) (fun q15 g15 => []) .nil h 8 rfl (fun q15 g15 h => ?_) (fun J16 h hJ16 => ?_)
    ·
     refine rd_v rfl (v_move rfl) ?_
     refine rd_j (ι := Bool) (γ := Unit) (fun q21 g21 => [(65, isv (q21))]) (fun q21 g21 => []) .nil h 4 rfl (fun q21 g21 h => ?_) (fun J22 h hJ22 => ?_)
     ·
      refine rd_v rfl (v_move rfl) ?_
      refine rd_j (ι := Bool) (γ := Unit) (fun q25 g25 => [(70, isv (q25))]) (fun q25 g25 => []) .nil h 4 rfl (fun q25 g25 h => ?_) (fun J26 h hJ26 => ?_)
      ·
       refine rd_v rfl (v_move rfl) ?_
       refine rd_j (ι := Bool) (γ := Unit) (fun q28 g28 => [(75, isv (q28))]) (fun q28 g28 => []) .nil h 4 rfl (fun q28 g28 h => ?_) (fun J29 h hJ29 => ?_)
       ·
        refine rd_v rfl (v_assign rfl) ?_
        refine rd_nil ?_
        refine fin_nxt ?_
        refine w_ret ?_
        refine ret_post (.tmp rfl .nil) .nil ?_
        obtain rfl := Option.some.inj h
        exact ⟨rfl, rfl⟩
       ·
        refine rd_condM (j := 71) h rfl (fun g30 h => ?_) (fun g30 h => ?_)
        ·
         refine rd_vt rfl rfl (dj := 71) rfl g30 (v_move rfl) ?_
         refine rd_vt rfl rfl (dj := 71) rfl g30 (v_move rfl) ?_
         refine rd_vt rfl rfl (dj := 71) rfl g30 (v_eql rfl rfl) ?_
         refine rd_v rfl (v_pick_t rfl g30 rfl) ?_
         exact hJ29 _ () h _ (join_imp 4 rfl rfl (mod_cons (j := 75) rfl (fun _ _ h => h) mod_nil) .nil)
        ·
         refine rd_passV rfl rfl (dj := 71) rfl g30 ?_
         refine rd_passV rfl rfl (dj := 71) rfl g30 ?_
         refine rd_passV rfl rfl (dj := 71) rfl g30 ?_
         refine rd_v rfl (v_pick_f rfl g30 rfl) ?_
         exact hJ29 _ () h _ (join_imp 4 rfl rfl (mod_cons (j := 75) rfl (fun _ _ h => h) mod_nil) .nil)
      ·
       refine rd_condM (j := 66) h rfl (fun g27 h => ?_) (fun g27 h => ?_)
       ·
        refine rd_vt rfl rfl (dj := 66) rfl g27 (v_move rfl) ?_
        refine rd_vt rfl rfl (dj := 66) rfl g27 (v_move rfl) ?_
        refine rd_vt rfl rfl (dj := 66) rfl g27 (v_eql rfl rfl) ?_
        refine rd_v rfl (v_pick_t rfl g27 rfl) ?_
        exact hJ26 _ () h _ (join_imp 4 rfl rfl (mod_cons (j := 70) rfl (fun _ _ h => h) mod_nil) .nil)
       ·
        refine rd_passV rfl rfl (dj := 66) rfl g27 ?_
        refine rd_passV rfl rfl (dj := 66) rfl g27 ?_
        refine rd_passV rfl rfl (dj := 66) rfl g27 ?_
        refine rd_v rfl (v_pick_f rfl g27 rfl) ?_
        exact hJ26 _ () h _ (join_imp 4 rfl rfl (mod_cons (j := 70) rfl (fun _ _ h => h) mod_nil) .nil)
     ·
      refine rd_condM (j := 61) h rfl (fun g23 h => ?_) (fun g23 h => ?_)
      ·
       refine rd_vt rfl rfl (dj := 61) rfl g23 (v_move rfl) ?_
       refine rd_vt rfl rfl (dj := 61) rfl g23 (v_move rfl) ?_
       refine cal_inv h fun y24 hy24 h => ?_
       refine rd_tt rfl rfl rfl (dj := 61) rfl g23 (t_call (h_Plain_int_w hy24) hT (.same rfl (.same rfl .nil)) .nil (fun R H' hR => ?_))
       obtain ⟨rfl, rfl⟩ := hR
       refine rd_v rfl (v_pick_t rfl g23 rfl) ?_
       exact hJ22 _ () h _ (join_imp 4 rfl rfl (mod_cons (j := 65) rfl (fun _ _ h => h) mod_nil) .nil)
      ·
       refine rd_passV rfl rfl (dj := 61) rfl g23 ?_
       refine rd_passV rfl rfl (dj := 61) rfl g23 ?_
       refine rd_passT rfl rfl (dj := 61) rfl g23 ?_
       refine rd_v rfl (v_pick_f rfl g23 rfl) ?_
       exact hJ22 _ () h _ (join_imp 4 rfl rfl (mod_cons (j := 65) rfl (fun _ _ h => h) mod_nil) .nil)
    ·
     refine rd_condM (j := 52) h rfl (fun g17 h => ?_) (fun g17 h => ?_)
     ·
      refine rd_vt rfl rfl (dj := 52) rfl g17 (v_loadI ty26 rfl) ?_
      refine rd_vt rfl rfl (dj := 52) rfl g17 (v_move rfl) ?_
      refine rd_vt rfl rfl (dj := 52) rfl g17 (v_loadI ty26 rfl) ?_
      refine rd_vt rfl rfl (dj := 52) rfl g17 (v_move rfl) ?_
      refine cal_inv h fun y18 hy18 h => ?_
      refine rd_tt rfl rfl rfl (dj := 52) rfl g17 (t_call (refs_Uses_w hy18) hT (.same rfl (.same rfl .nil)) .nil (fun R H' hR => ?_))
      obtain ⟨rfl, rfl⟩ := hR
      refine cal_inv h fun y19 hy19 h => ?_
      refine rd_tt rfl rfl rfl (dj := 52) rfl g17 (t_call (r07_Uses_w hy19) hT (.same rfl (.same rfl .nil)) .nil (fun R H' hR => ?_))
      obtain ⟨rfl, rfl⟩ := hR
      refine cal_inv h fun y20 hy20 h => ?_
      refine rd_tt rfl rfl rfl (dj := 52) rfl g17 (t_call (h_Plain_int_w hy20) hT (.same rfl (.same rfl .nil)) .nil (fun R H' hR => ?_))
      obtain ⟨rfl, rfl⟩ := hR
      refine rd_v rfl (v_pick_t rfl g17 rfl) ?_
      exact hJ16 _ () h _ (join_imp 8 rfl rfl (mod_cons (j := 60) rfl (fun _ _ h => h) mod_nil) .nil)
     ·
      refine rd_passV rfl rfl (dj := 52) rfl g17 ?_
      refine rd_passV rfl rfl (dj := 52) rfl g17 ?_
      refine rd_passV rfl rfl (dj := 52) rfl g17 ?_
      refine rd_passV rfl rfl (dj := 52) rfl g17 ?_
      refine rd_passT rfl rfl (dj := 52) rfl g17 ?_
      refine rd_passT rfl rfl (dj := 52) rfl g17 ?_
      refine rd_passT rfl rfl (dj := 52) rfl g17 ?_
      refine rd_v rfl (v_pick_f rfl g17 rfl) ?_
      exact hJ16 _ () h _ (join_imp 8 rfl rfl (mod_cons (j := 60) rfl (fun _ _ h => h) mod_nil) .nil)
   ·
    refine rd_condM (j := 43) h rfl (fun g12 h => ?_) (fun g12 h => ?_)
    ·
     refine rd_vt rfl rfl (dj := 43) rfl g12 (v_loadI ty26 rfl) ?_
     refine rd_vt rfl rfl (dj := 43) rfl g12 (v_move rfl) ?_
     refine rd_vt rfl rfl (dj := 43) rfl g12 (v_loadI ty26 rfl) ?_
     refine rd_vt rfl rfl (dj := 43) rfl g12 (v_move rfl) ?_
     refine cal_inv h fun y13 hy13 h => ?_
     refine rd_tt rfl rfl rfl (dj := 43) rfl g12 (t_call (refs_Find_w hy13) hT (.same rfl (.same rfl .nil)) .nil (fun R H' hR => ?_))
     obtain ⟨rfl, rfl⟩ := hR
     refine cal_inv h fun y14 hy14 h => ?_
     refine rd_tt rfl rfl rfl (dj := 43) rfl g12 (t_call (r07_Find_w hy14) hT (.same rfl (.same rfl .nil)) .nil (fun R H' hR => ?_))
     obtain ⟨rfl, rfl⟩ := hR
     refine rd_vt rfl rfl (dj := 43) rfl g12 (v_eql rfl rfl) ?_
     refine rd_v rfl (v_pick_t rfl g12 rfl) ?_
     exact hJ11 _ () h _ (join_imp 8 rfl rfl (mod_cons (j := 51) rfl (fun _ _ h => h) mod_nil) .nil)
    ·
     refine rd_passV rfl rfl (dj := 43) rfl g12 ?_
     refine rd_passV rfl rfl (dj := 43) rfl g12 ?_
     refine rd_passV rfl rfl (dj := 43) rfl g12 ?_
     refine rd_passV rfl rfl (dj := 43) rfl g12 ?_
     refine rd_passT rfl rfl (dj := 43) rfl g12 ?_
     refine rd_passT rfl rfl (dj := 43) rfl g12 ?_
     refine rd_passV rfl rfl (dj := 43) rfl g12 ?_
     refine rd_v rfl (v_pick_f rfl g12 rfl) ?_
     exact hJ11 _ () h _ (join_imp 8 rfl rfl (mod_cons (j := 51) rfl (fun _ _ h => h) mod_nil) .nil)
 ·
  refine rl_condM (j := 25) h rfl (fun g5 h => ?_) (fun g5 h => ?_)
  ·
   refine op_pass rfl (dj := 25) rfl g5 ?_
   refine op_pass rfl (dj := 25) rfl g5 ?_
   refine oV (v_pick_t rfl g5 rfl) ?_
   exact hJ4 _ () h _ (join_imp 3 rfl rfl (mod_cons (j := 28) rfl (fun _ _ h => h) mod_nil) .nil)
  ·
   refine op_take rfl rfl (dj := 25) rfl g5 (OpV.t (v_move rfl) ?_)
   refine op_take rfl rfl (dj := 25) rfl g5 (OpV.t (v_neq rfl rfl) ?_)
   refine oV (v_pick_f rfl g5 rfl) ?_
   exact hJ4 _ () h _ (join_imp 3 rfl rfl (mod_cons (j := 28) rfl (fun _ _ h => h) mod_nil) .nil)


theorem law07_RefsOrder_w : ∀ {a_text : Str} {r : Bool}, law07_RefsOrder a_text = some r → Ctr Tryd.prog 4 [isv (a_text)] [] (fun R H => R = oneOf [isv (r)] ∧ H = []) := by
 intro a_text r h
 unfold law07_RefsOrder at h
 refine spec_intro Tryd.func4 rfl (by decide +kernel) (by rfl) fun w0 S0 hT => ?_
 refine wsr ?_
 refine oV (v_assign rfl) ?_
 refine rnf ?_
 refine wsr ?_
 refine oV (v_move rfl) ?_
 refine cal_inv h fun y1 hy1 h => ?_
 refine oT (t_call (r05_Parse_w hy1) hT (.same rfl .nil) .nil (fun R H' hR => ?_))
 obtain ⟨rfl, rfl⟩ := hR
 refine oV (v_move rfl) ?_
 refine oV (v_extract rfl rfl) ?_
 refine oV (v_extract rfl rfl) ?_
 refine oV (v_extract rfl rfl) ?_
 refine oT (t_alloc _ ze26 fun b2 => ?_)
 refine oT (t_storeC (y' := (y1.1 : GMod)) ty26 rfl rfl (fun _ _ h => h) .here rfl ?_)
 refine rl_upd (upd_imm 3 .here rfl) ?_
 refine oV (v_assign rfl) ?_
 refine oV (v_assign rfl) ?_
 refine rnf ?_
 refine w_seq ?_
 refine wsr ?_
 refine oV (v_move rfl) ?_
 refine oV (v_lenS st9 rfl) ?_
 refine oV (v_gtr rfl rfl) ?_
 refine oV (v_move rfl) ?_
 refine rl_j (ι := Bool) (γ := Unit) (fun q3 g3 => [(24, isv (q3))]) (fun q3 g3 => []) .nil h 3 rfl (fun q3 g3 h => ?_) (fun J4 h hJ4 => ?_)
 ·
  refine rnf ?_
  refine w_condM h rfl (fun _ h => ?_) (fun _ h => ?_)
  ·
   refine wsr ?_
   refine cal_inv h fun y6 hy6 h => ?_
   refine oT (t_call (law07_awake_w hy6) hT .nil .nil (fun R H' hR => ?_))
   obtain ⟨rfl, rfl⟩ := hR
   refine oV (v_assign rfl) ?_
   refine rnf ?_
   refine w_ret ?_
   refine ret_nxt ?_
   refine ret_post (.tmp rfl .nil) .nil ?_
   obtain rfl := Option.some.inj h
   exact ⟨rfl, rfl⟩
  ·
   refine wkf ?_
   refine wsr ?_
   refine oV (v_loadI ty26 rfl) ?_
   refine cal_inv h fun y7 hy7 h => ?_
   refine oT (t_call (refs_Order_w hy7) hT (.same rfl .nil) .nil (fun R H' hR => ?_))
   obtain ⟨rfl, rfl⟩ := hR
   refine oV (v_move rfl) ?_
   refine oV (v_extract rfl rfl) ?_
   refine oV (v_extract rfl rfl) ?_
   refine oV (v_extract rfl rfl) ?_
   refine oV (v_assign rfl) ?_
   refine oV (v_assign rfl) ?_
   refine oV (v_assign rfl) ?_
   refine rnf ?_
   refine w_seq ?_
   refine wsr ?_
   refine cal_inv h fun y8 hy8 h => ?_
   refine oT (t_call (law07_awake_w hy8) hT .nil .nil (fun R H' hR => ?_))
   obtain ⟨rfl, rfl⟩ := hR
   refine oV (v_not rfl) ?_
   refine oV (v_move rfl) ?_
   refine rl_j (ι := Bool) (γ := Unit) (fun q9 g9 => [(37, isv (q9))]) (fun q9 g9 => []) .nil h 3 rfl (fun q9 g9 h => ?_) (fun J10 h hJ10 => ?_)
   ·
    refine rnf ?_
    refine w_condM h rfl (fun _ h => ?_) (fun _ h => ?_)
    ·
     refine wsr ?_
     refine cal_inv h fun y12 hy12 h => ?_
     refine oT (t_call (law07_awake_w hy12) hT .nil .nil (fun R H' hR => ?_))
     obtain ⟨rfl, rfl⟩ := hR
     refine oV (v_move rfl) ?_
     refine rl_j (ι := Bool) (γ := Unit) (fun q13 g13 => [(43, isv (q13))]) (fun q13 g13 => []) .nil h 4 rfl (fun q13 g13 h => ?_) (fun J14 h hJ14 => ?_)
     ·
      refine oV (v_assign rfl) ?_
      refine rnf ?_
      refine w_ret ?_
      refine ret_nxt ?_
      refine ret_post (.tmp rfl .nil) .nil ?_
      obtain rfl := Option.some.inj h
      exact ⟨rfl, rfl⟩
     ·
      refine rl_condM (j := 39) h rfl (fun g15 h => ?_) (fun g15 h => ?_)
      ·
       refine op_take rfl rfl (dj := 39) rfl g15 (OpV.t (v_move rfl) ?_)
       refine op_take rfl rfl (dj := 39) rfl g15 (OpV.t (v_ln (l := y7.1) rfl (fun _ _ h => h) sl23) ?_)
       refine op_take rfl rfl (dj := 39) rfl g15 (OpV.t (v_eql rfl rfl) ?_)
       refine oV (v_pick_t rfl g15 rfl) ?_
       exact hJ14 _ () h _ (join_imp 4 rfl rfl (mod_cons (j := 43) rfl (fun _ _ h => h) mod_nil) .nil)
      ·
       refine op_pass rfl (dj := 39) rfl g15 ?_
       refine op_pass rfl (dj := 39) rfl g15 ?_
       refine op_pass rfl (dj := 39) rfl g15 ?_
       refine oV (v_pick_f rfl g15 rfl) ?_
       exact hJ14 _ () h _ (join_imp 4 rfl rfl (mod_cons (j := 43) rfl (fun _ _ h => h) mod_nil) .nil)
    ·
     refine wkf ?_
     refine w_seq ?_
     refine wsr ?_
     refine oV (v_assign rfl) ?_
     refine rnf ?_
     refine w_block ?_
     refine w_lp (ι := Int) (γ := Unit) (fun q16 g16 => [(9, isv (q16))]) (fun q16 g16 => []) h () (mod_cons (j := 9) rfl (fun _ _ h => h) mod_nil) .nil (fun L17 q16 g16 Q72 h hL17 eL17 rL17 => ?_)
     refine w_seq ?_
     refine wsr ?_
     refine oV (v_move rfl) ?_
     refine oV (v_move rfl) ?_
     refine oV (v_ln (l := y7.1) rfl (fun _ _ h => h) sl23) ?_
     refine oV (v_lss rfl rfl) ?_
     refine rnf ?_
     refine w_condM h rfl (fun _ h => ?_) (fun _ h => ?_)
     ·
      refine wkf ?_
      refine w_seq ?_
      refine w_block ?_
      refine w_seq ?_
      refine w_seq ?_
      refine w_regionD (.v 0 (.v 1 (.v 2 (.v 3 (.v 4 (.v 5 (.v 6 (.v 7 (.v 8 (.v 9 (.v 10 (.v 11 (.v 12 (.v 13 (.v 14 (.v 15 (.v 16 (.v 17 (.v 18 (.v 19 (.v 20 (.v 21 (.v 22 (.t 23 (.v 24 .nil))))))))))))))))))))))))) moOrd (by kernel_rfl) ?_
      refine rd_v rfl (v_move rfl) ?_
      refine rd_v rfl (v_move rfl) ?_
      refine cal_inv h fun y45 hy45 h => ?_
      refine rd_v rfl (v_ix (l := y7.1) rfl (fun _ _ h => h) rfl sl23 hy45) ?_
      refine rd_v rfl (v_loadI ty3 rfl) ?_
      refine rd_v rfl (v_lss rfl rfl) ?_
      refine rd_v rfl (v_move rfl) ?_
      refine rd_j (ι := Bool) (γ := Unit) (fun q46 g46 => [(64, isv (q46))]) (fun q46 g46 => []) .nil h 9 rfl (fun q46 g46 h => ?_) (fun J47 h hJ47 => ?_)
      ·
       refine rd_v rfl (v_move rfl) ?_
       refine rd_j (ι := Bool) (γ := Unit) (fun q50 g50 => [(74, isv (q50))]) (fun q50 g50 => []) .nil h 9 rfl (fun q50 g50 h => ?_) (fun J51 h hJ51 => ?_)
       ·
        refine rd_nil ?_
        refine fin_nxt ?_
        refine w_condM h rfl (fun _ h => ?_) (fun _ h => ?_)
        ·
         refine wsr ?_
         refine oV (v_assign rfl) ?_
         refine rnf ?_
         refine w_ret ?_
         refine ret_nxt ?_
         refine ret_block ?_
         refine ret_nxt ?_
         refine rL17 _ ?_
         refine ret_block ?_
         refine ret_nxt ?_
         refine ret_post (.tmp rfl .nil) .nil ?_
         obtain rfl := Option.some.inj h
         exact ⟨rfl, rfl⟩
        ·
         refine wkf ?_
         refine w_seq ?_
         refine w_regionD (.v 0 (.v 1 (.v 2 (.v 3 (.v 4 (.v 5 (.v 6 (.v 7 (.v 8 (.t 9 (.v 10 .nil))))))))))) moOrd (by kernel_rfl) ?_
         refine rd_v rfl (v_loadI ty26 rfl) ?_
         refine rd_v rfl (v_fi rfl GMod.f3 fd26_3 rfl (z := y1.1.types)) ?_
         refine rd_v rfl (v_loadI ty23 rfl) ?_
         refine rd_v rfl (v_move rfl) ?_
         refine rd_v rfl (v_move rfl) ?_
         refine cal_inv h fun y56 hy56 h => ?_
         refine rd_v rfl (v_ix (l := y7.1) rfl (fun _ _ h => h) rfl sl23 hy56) ?_
         refine rd_v rfl (v_loadI ty3 rfl) ?_
         refine cal_inv h fun y57 hy57 h => ?_
         refine rd_v rfl (v_ix (l := y1.1.types) rfl (fun _ _ h => h) rfl sl23 hy57) ?_
         refine rd_v rfl (v_loadI ty3 rfl) ?_
         refine cal_inv h fun y58 hy58 h => ?_
         refine rd_t rfl rfl (t_call (refs_Uses_w hy58) hT (.same rfl (.same rfl .nil)) .nil (fun R H' hR => ?_))
         obtain ⟨rfl, rfl⟩ := hR
         refine rd_v rfl (v_assign rfl) ?_
         refine rd_nil ?_
         refine fin_nxt ?_
         refine wsr ?_
         refine oV (v_assign rfl) ?_
         refine rnf ?_
         refine w_block ?_
         refine w_lp (ι := Int) (γ := Unit) (fun q59 g59 => [(11, isv (q59))]) (fun q59 g59 => []) h () (mod_cons (j := 11) rfl (fun _ _ h => h) mod_nil) .nil (fun L60 q59 g59 Q71 h hL60 eL60 rL60 => ?_)
         refine w_seq ?_
         refine wsr ?_
         refine oV (v_move rfl) ?_
         refine oV (v_move rfl) ?_
         refine oV (v_ln (l := y58) rfl (fun _ _ h => h) sl23) ?_
         refine oV (v_lss rfl rfl) ?_
         refine rnf ?_
         refine w_condM h rfl (fun _ h => ?_) (fun _ h => ?_)
         ·
          refine wkf ?_
          refine w_seq ?_
          refine w_block ?_
          refine w_seq ?_
          refine w_regionD (.v 0 (.v 1 (.v 2 (.v 3 (.v 4 (.v 5 (.v 6 (.t 7 (.v 8 .nil))))))))) moOrd (by kernel_rfl) ?_
          refine rd_v rfl (v_move rfl) ?_
          refine rd_v rfl (v_move rfl) ?_
          refine asd_inv h fun q66 h => ?_
          refine rd_v rfl (v_sl (l := y7.1) rfl (fun _ _ h => h) sl23 (.inl ⟨rfl, rfl⟩) (.inr ⟨_, rfl, rfl⟩) q66.1 q66.2.1 q66.2.2) ?_
          refine rd_v rfl (v_move rfl) ?_
          refine rd_v rfl (v_move rfl) ?_
          refine cal_inv h fun y67 hy67 h => ?_
          refine rd_v rfl (v_ix (l := y58) rfl (fun _ _ h => h) rfl sl23 hy67) ?_
          refine rd_v rfl (v_loadI ty3 rfl) ?_
          refine cal_inv h fun y68 hy68 h => ?_
          refine rd_t rfl rfl (t_call (h_In_int_w hy68) hT (.same rfl (.same rfl .nil)) .nil (fun R H' hR => ?_))
          obtain ⟨rfl, rfl⟩ := hR
          refine rd_v rfl (v_not rfl) ?_
          refine rd_nil ?_
          refine fin_nxt ?_
          refine w_condM h rfl (fun _ h => ?_) (fun _ h => ?_)
          ·
           refine wsr ?_
           refine oV (v_assign rfl) ?_
           refine rnf ?_
           refine w_ret ?_
           refine ret_block ?_
           refine ret_nxt ?_
           refine rL60 _ ?_
           refine ret_block ?_
           refine ret_block ?_
           refine ret_nxt ?_
           refine rL17 _ ?_
           refine ret_block ?_
           refine ret_nxt ?_
           refine ret_post (.tmp rfl .nil) .nil ?_
           obtain rfl := Option.some.inj h
           exact ⟨rfl, rfl⟩
          ·
           refine w_skip ?_
           refine fin_block ?_
           refine fin_nxt ?_
           refine w_region ?_
           refine oV (v_move rfl) ?_
           refine ck_inv h fun q69 h => ?_
           refine oV (v_add rfl rfl q69) ?_
           refine oV (v_assign rfl) ?_
           refine rl_nil ?_
           exact hL60 _ () h _ (join_imp 17 rfl rfl (mod_cons (j := 11) rfl (fun _ _ h => h) mod_nil) .nil)
         ·
          refine w_exit ?_
          refine exi_nxt ?_
          refine eL60 _ _ ?_
          refine exi_block ?_
          refine fin_block ?_
          refine fin_nxt ?_
          refine w_region ?_
          refine oV (v_move rfl) ?_
          refine ck_inv h fun q70 h => ?_
          refine oV (v_add rfl rfl q70) ?_
          refine oV (v_assign rfl) ?_
          refine rl_nil ?_
          exact hL17 _ () h _ (join_imp 34 rfl rfl (mod_cons (j := 9) rfl (fun _ _ h => h) mod_nil) .nil)
       ·
        refine rd_condM (j := 65) h rfl (fun g52 h => ?_) (fun g52 h => ?_)
        ·
         refine rd_passV rfl rfl (dj := 65) rfl g52 ?_
         refine rd_passV rfl rfl (dj := 65) rfl g52 ?_
         refine rd_passV rfl rfl (dj := 65) rfl g52 ?_
         refine rd_passV rfl rfl (dj := 65) rfl g52 ?_
         refine rd_passV rfl rfl (dj := 65) rfl g52 ?_
         refine rd_passV rfl rfl (dj := 65) rfl g52 ?_
         refine rd_passV rfl rfl (dj := 65) rfl g52 ?_
         refine rd_passT rfl rfl (dj := 65) rfl g52 ?_
         refine rd_v rfl (v_pick_t rfl g52 rfl) ?_
         exact hJ51 _ () h _ (join_imp 9 rfl rfl (mod_cons (j := 74) rfl (fun _ _ h => h) mod_nil) .nil)
        ·
         refine rd_vt rfl rfl (dj := 65) rfl g52 (v_move rfl) ?_
         refine rd_vt rfl rfl (dj := 65) rfl g52 (v_move rfl) ?_
         refine asd_inv h fun q53 h => ?_
         refine rd_vt rfl rfl (dj := 65) rfl g52 (v_sl (l := y7.1) rfl (fun _ _ h => h) sl23 (.inl ⟨rfl, rfl⟩) (.inr ⟨_, rfl, rfl⟩) q53.1 q53.2.1 q53.2.2) ?_
         refine rd_vt rfl rfl (dj := 65) rfl g52 (v_move rfl) ?_
         refine rd_vt rfl rfl (dj := 65) rfl g52 (v_move rfl) ?_
         refine cal_inv h fun y54 hy54 h => ?_
         refine rd_vt rfl rfl (dj := 65) rfl g52 (v_ix (l := y7.1) rfl (fun _ _ h => h) rfl sl23 hy54) ?_
         refine rd_vt rfl rfl (dj := 65) rfl g52 (v_loadI ty3 rfl) ?_
         refine cal_inv h fun y55 hy55 h => ?_
         refine rd_tt rfl rfl rfl (dj := 65) rfl g52 (t_call (h_In_int_w hy55) hT (.same rfl (.same rfl .nil)) .nil (fun R H' hR => ?_))
         obtain ⟨rfl, rfl⟩ := hR
         refine rd_v rfl (v_pick_f rfl g52 rfl) ?_
         exact hJ51 _ () h _ (join_imp 9 rfl rfl (mod_cons (j := 74) rfl (fun _ _ h => h) mod_nil) .nil)
      ·
       refine rd_condM (j := 55) h rfl (fun g48 h => ?_) (fun g48 h => ?_)
       ·
        refine rd_passV rfl rfl (dj := 55) rfl g48 ?_
        refine rd_passV rfl rfl (dj := 55) rfl g48 ?_
        refine rd_passV rfl rfl (dj := 55) rfl g48 ?_
        refine rd_passV rfl rfl (dj := 55) rfl g48 ?_
        refine rd_passV rfl rfl (dj := 55) rfl g48 ?_
        refine rd_passV rfl rfl (dj := 55) rfl g48 ?_
        refine rd_passV rfl rfl (dj := 55) rfl g48 ?_
        refine rd_passV rfl rfl (dj := 55) rfl g48 ?_
        refine rd_v rfl (v_pick_t rfl g48 rfl) ?_
        exact hJ47 _ () h _ (join_imp 9 rfl rfl (mod_cons (j := 64) rfl (fun _ _ h => h) mod_nil) .nil)
       ·
        refine rd_vt rfl rfl (dj := 55) rfl g48 (v_move rfl) ?_
        refine rd_vt rfl rfl (dj := 55) rfl g48 (v_move rfl) ?_
        refine cal_inv h fun y49 hy49 h => ?_
        refine rd_vt rfl rfl (dj := 55) rfl g48 (v_ix (l := y7.1) rfl (fun _ _ h => h) rfl sl23 hy49) ?_
        refine rd_vt rfl rfl (dj := 55) rfl g48 (v_loadI ty3 rfl) ?_
        refine rd_vt rfl rfl (dj := 55) rfl g48 (v_fi rfl GMod.f3 fd26_3 rfl (z := y1.1.types)) ?_
        refine rd_vt rfl rfl (dj := 55) rfl g48 (v_loadI ty23 rfl) ?_
        refine rd_vt rfl rfl (dj := 55) rfl g48 (v_ln (l := y1.1.types) rfl (fun _ _ h => h) sl23) ?_
        refine rd_vt rfl rfl (dj := 55) rfl g48 (v_geq rfl rfl) ?_
        refine rd_v rfl (v_pick_f rfl g48 rfl) ?_
        exact hJ47 _ () h _ (join_imp 9 rfl rfl (mod_cons (j := 64) rfl (fun _ _ h => h) mod_nil) .nil)
     ·
      refine w_exit ?_
      refine exi_nxt ?_
      refine eL17 _ _ ?_
      refine exi_block ?_
      refine fin_nxt ?_
      refine wsr ?_
      refine oV (v_move rfl) ?_
      refine oV (v_ln (l := y7.1) rfl (fun _ _ h => h) sl23) ?_
      refine oV (v_fi rfl GMod.f2 fd26_2 rfl (z := y1.1.names)) ?_
      refine oV (v_loadI ty22 rfl) ?_
      refine oV (v_ln (l := y1.1.names) rfl (fun _ _ h => h) sl22) ?_
      refine oV (v_eql rfl rfl) ?_
      refine oV (v_assign rfl) ?_
      refine rnf ?_
      refine w_ret ?_
      refine ret_post (.tmp rfl .nil) .nil ?_
      obtain rfl := Option.some.inj h
      exact ⟨rfl, rfl⟩
   ·
    refine rl_condM (j := 34) h rfl (fun g11 h => ?_) (fun g11 h => ?_)
    ·
     refine op_pass rfl (dj := 34) rfl g11 ?_
     refine op_pass rfl (dj := 34) rfl g11 ?_
     refine oV (v_pick_t rfl g11 rfl) ?_
     exact hJ10 _ () h _ (join_imp 3 rfl rfl (mod_cons (j := 37) rfl (fun _ _ h => h) mod_nil) .nil)
    ·
     refine op_take rfl rfl (dj := 34) rfl g11 (OpV.t (v_move rfl) ?_)
     refine op_take rfl rfl (dj := 34) rfl g11 (OpV.t (v_neq rfl rfl) ?_)
     refine oV (v_pick_f rfl g11 rfl) ?_
     exact hJ10 _ () h _ (join_imp 3 rfl rfl (mod_cons (j := 37) rfl (fun _ _ h => h) mod_nil) .nil)
 ·
  refine rl_condM (j := 21) h rfl (fun g5 h => ?_) (fun g5 h => ?_)
  ·
   refine op_pass rfl (dj := 21) rfl g5 ?_
   refine op_pass rfl (dj := 21) rfl g5 ?_
   refine oV (v_pick_t rfl g5 rfl) ?_
   exact hJ4 _ () h _ (join_imp 3 rfl rfl (mod_cons (j := 24) rfl (fun _ _ h => h) mod_nil) .nil)
  ·
   refine op_take rfl rfl (dj := 21) rfl g5 (OpV.t (v_move rfl) ?_)
   refine op_take rfl rfl (dj := 21) rfl g5 (OpV.t (v_neq rfl rfl) ?_)
   refine oV (v_pick_f rfl g5 rfl) ?_
   exact hJ4 _ () h _ (join_imp 3 rfl rfl (mod_cons (j := 24) rfl (fun _ _ h => h) mod_nil) .nil)


def h_Digits_C (f' : UInt64 → Option (Str)) : Prop :=
 ∀ {a_v : UInt64} {r : Str}, f' a_v = some r → Ctr Tryd.prog 18 [isv (a_v)] [] (fun R H => R = oneOf [isv (r)] ∧ H = [])
theorem h_Digits_w0 {h_Digits' : UInt64 → Option (Str)} (h_h_Digits : h_Digits_C h_Digits') : ∀ {a_v : UInt64} {r : Str}, h_Digits_F h_Digits' a_v = some r → Ctr Tryd.prog 18 [isv (a_v)] [] (fun R H => R = oneOf [isv (r)] ∧ H = []) := by
 intro a_v r h
 unfold h_Digits_F at h
 refine spec_intro Tryd.func18 rfl (by decide +kernel) (by rfl) fun w0 S0 hT => ?_
 refine wsr ?_
 refine oV (v_assign rfl) ?_
 refine rnf ?_
 refine w_seq ?_
 refine wsr ?_
 refine oV (v_move rfl) ?_
 refine oV (v_lss64 rfl rfl) ?_
 refine rnf ?_
 refine w_condM h rfl (fun _ h => ?_) (fun _ h => ?_)
 ·
  refine wsr ?_
  refine oV (v_move rfl) ?_
  refine oV (v_add64 rfl rfl) ?_
  refine oV (v_u64u8 Tryd.underlying41 Tryd.underlying5 rfl) ?_
  refine oT (t_buildSlice (l := ([((48 : UInt64) + a_v).toUInt8] : (List UInt8))) el71 (.cons rfl (fun _ _ h => h) .nil) rfl rfl ?_)
  refine oV (v_bs (l := ([((48 : UInt64) + a_v).toUInt8] : (List UInt8))) Tryd.underlying71 Tryd.underlying5 Tryd.underlying9 rfl appv_isv) ?_
  refine oV (v_assign rfl) ?_
  refine rnf ?_
  refine w_ret ?_
  refine ret_nxt ?_
  refine ret_post (.tmp rfl .nil) .nil ?_
  obtain rfl := Option.some.inj h
  exact ⟨rfl, rfl⟩
 ·
  refine wkf ?_
  refine w_seq ?_
  refine w_J (ι := Str) (γ := Unit) (fun q2 g2 => [(2, isv (q2))]) (fun q2 g2 => []) .nil h (fun q2 g2 h => ?_) (fun J3 h hJ3 => ?_)
  ·
   refine w_ret ?_
   refine ret_post (.tmp rfl .nil) .nil ?_
   obtain rfl := Option.some.inj h
   exact ⟨rfl, rfl⟩
  ·
   refine w_regionD (.v 0 (.v 1 (.v 3 (.v 4 (.v 5 (.v 6 (.alt 2 (.t 7 (.v 8 (.v 9 (.v 10 .nil)))) (.t 7 (.v 8 (.t 2 (.v 9 (.v 10 .nil)))))))))))) moOrd (by kernel_rfl) ?_
   refine rd_v rfl (v_move rfl) ?_
   refine asr_inv h fun q4 h => ?_
   refine rd_v rfl (v_quo64 rfl rfl q4) ?_
   refine rd_v rfl (v_move rfl) ?_
   refine asr_inv h fun q5 h => ?_
   refine rd_v rfl (v_rem64 rfl rfl q5) ?_
   refine rd_v rfl (v_add64 rfl rfl) ?_
   refine rd_v rfl (v_u64u8 Tryd.underlying41 Tryd.underlying5 rfl) ?_
   refine cal_inv h fun y6 hy6 h => ?_
   refine asr_inv h fun q8 h => ?_
   refine rd_two ?_ ?_
   ·
    refine rd_t rfl rfl (t_call (h_h_Digits hy6) hT (.same rfl .nil) .nil (fun R H' hR => ?_))
    obtain ⟨rfl, rfl⟩ := hR
    refine rd_t rfl rfl (t_buildSlice (l := ([((48 : UInt64) + (a_v % (10 : UInt64))).toUInt8] : (List UInt8))) el71 (.cons rfl (fun _ _ h => h) .nil) rfl rfl ?_)
    refine rd_v rfl (v_bs (l := ([((48 : UInt64) + (a_v % (10 : UInt64))).toUInt8] : (List UInt8))) Tryd.underlying71 Tryd.underlying5 Tryd.underlying9 rfl appv_isv) ?_
    refine rd_v rfl (v_cat rfl rfl q8) ?_
    refine rd_v rfl (v_assign rfl) ?_
    refine rd_nil ?_
    exact hJ3 _ () h _ (join_imp 11 rfl rfl (mod_cons (j := 2) rfl (fun _ _ h => h) mod_nil) .nil)
   ·
    refine rd_t rfl rfl (t_buildSlice (l := ([((48 : UInt64) + (a_v % (10 : UInt64))).toUInt8] : (List UInt8))) el71 (.cons rfl (fun _ _ h => h) .nil) rfl rfl ?_)
    refine rd_v rfl (v_bs (l := ([((48 : UInt64) + (a_v % (10 : UInt64))).toUInt8] : (List UInt8))) Tryd.underlying71 Tryd.underlying5 Tryd.underlying9 rfl appv_isv) ?_
    refine rd_t rfl rfl (t_call (h_h_Digits hy6) hT (.same rfl .nil) .nil (fun R H' hR => ?_))
    obtain ⟨rfl, rfl⟩ := hR
    refine rd_v rfl (v_cat rfl rfl q8) ?_
    refine rd_v rfl (v_assign rfl) ?_
    refine rd_nil ?_
    exact hJ3 _ () h _ (join_imp 11 rfl rfl (mod_cons (j := 2) rfl (fun _ _ h => h) mod_nil) .nil)

theorem h_Digits_grp_w : ∀ n, h_Digits_C (h_Digits n)
 | 0 => fun h => (by cases h)
 | n + 1 => h_Digits_w0 (h_Digits_grp_w n)
theorem h_Digits_w (n : Nat) : h_Digits_C (h_Digits n) := (h_Digits_grp_w n)

theorem law07_RefsCircles_w : ∀ {a_n_ : Int} {a_back : Int} {a_closed : Bool} {r : Bool}, law07_RefsCircles a_n_ a_back a_closed = some r → Ctr Tryd.prog 5 [isv (a_n_), isv (a_back), isv (a_closed)] [] (fun R H => R = oneOf [isv (r)] ∧ H = []) := by
 intro a_n_ a_back a_closed r h
 unfold law07_RefsCircles at h
 refine spec_intro Tryd.func5 rfl (by decide +kernel) (by rfl) fun w0 S0 hT => ?_
 refine wsr ?_
 refine oV (v_assign rfl) ?_
 refine rnf ?_
 refine wsr ?_
 refine oV (v_move rfl) ?_
 refine oV (v_toU Tryd.underlying3 Tryd.underlying39 rfl) ?_
 refine asr_inv h fun q1 h => ?_
 refine oV (v_rem64 rfl rfl q1) ?_
 refine ck_inv h fun q2 h => ?_
 refine oV (v_u64i Tryd.underlying39 Tryd.underlying3 rfl q2) ?_
 refine ck_inv h fun q3 h => ?_
 refine oV (v_add rfl rfl q3) ?_
 refine oV (v_assign rfl) ?_
 refine rnf ?_
 refine wsr ?_
 refine oV (v_move rfl) ?_
 refine oV (v_toU Tryd.underlying3 Tryd.underlying39 rfl) ?_
 refine oV (v_move rfl) ?_
 refine oV (v_toU Tryd.underlying3 Tryd.underlying39 rfl) ?_
 refine asr_inv h fun q4 h => ?_
 refine oV (v_rem64 rfl rfl q4) ?_
 refine ck_inv h fun q5 h => ?_
 refine oV (v_u64i Tryd.underlying39 Tryd.underlying3 rfl q5) ?_
 refine oV (v_assign rfl) ?_
 refine rnf ?_
 refine wsr ?_
 refine oV (v_assign rfl) ?_
 refine rnf ?_
 refine w_seq ?_
 refine wsr ?_
 refine oV (v_assign rfl) ?_
 refine rnf ?_
 refine w_block ?_
 refine w_lp (ι := Str × Int) (γ := Unit) (fun q6 g6 => [(7, isv (q6.1)), (8, isv (q6.2))]) (fun q6 g6 => []) h () (mod_cons (j := 7) rfl (fun _ _ h => h) (mod_cons (j := 8) rfl (fun _ _ h => h) mod_nil)) .nil (fun L7 q6 g6 Q98 h hL7 eL7 rL7 => ?_)
 refine w_seq ?_
 refine wsr ?_
 refine oV (v_move rfl) ?_
 refine oV (v_move rfl) ?_
 refine oV (v_lss rfl rfl) ?_
 refine rnf ?_
 refine w_condM h rfl (fun _ h => ?_) (fun _ h => ?_)
 ·
  refine wkf ?_
  refine w_seq ?_
  refine w_block ?_
  refine wsr ?_
  refine oV (v_move rfl) ?_
  refine ck_inv h fun q53 h => ?_
  refine oV (v_add rfl rfl q53) ?_
  refine oV (v_toU Tryd.underlying3 Tryd.underlying41 rfl) ?_
  refine cal_inv h fun y54 hy54 h => ?_
  refine oT (t_call (h_Digits_w fuel hy54) hT (.same rfl .nil) .nil (fun R H' hR => ?_))
  obtain ⟨rfl, rfl⟩ := hR
  refine asr_inv h fun q55 h => ?_
  refine oV (v_cat rfl rfl q55) ?_
  refine oV (v_assign rfl) ?_
  refine rnf ?_
  refine w_seq ?_
  refine wsr ?_
  refine oV (v_move rfl) ?_
  refine ck_inv h fun q56 h => ?_
  refine oV (v_add rfl rfl q56) ?_
  refine oV (v_move rfl) ?_
  refine oV (v_eql rfl rfl) ?_
  refine rnf ?_
  refine w_J (ι := Str) (γ := Unit) (fun q57 g57 => [(9, isv (q57))]) (fun q57 g57 => []) .nil h (fun q57 g57 h => ?_) (fun J58 h hJ58 => ?_)
  ·
   refine w_region ?_
   refine oV (v_move rfl) ?_
   refine asr_inv h fun q62 h => ?_
   refine oV (v_cat rfl rfl q62) ?_
   refine oV (v_move rfl) ?_
   refine oV (v_toU Tryd.underlying3 Tryd.underlying41 rfl) ?_
   refine cal_inv h fun y63 hy63 h => ?_
   refine oT (t_call (h_Digits_w fuel hy63) hT (.same rfl .nil) .nil (fun R H' hR => ?_))
   obtain ⟨rfl, rfl⟩ := hR
   refine asr_inv h fun q64 h => ?_
   refine oV (v_cat rfl rfl q64) ?_
   refine asr_inv h fun q65 h => ?_
   refine oV (v_cat rfl rfl q65) ?_
   refine oV (v_move rfl) ?_
   refine asr_inv h fun q66 h => ?_
   refine oV (v_cat rfl rfl q66) ?_
   refine oV (v_assign rfl) ?_
   refine rl_nil ?_
   refine fin_block ?_
   refine fin_nxt ?_
   refine w_region ?_
   refine oV (v_move rfl) ?_
   refine ck_inv h fun q67 h => ?_
   refine oV (v_add rfl rfl q67) ?_
   refine oV (v_assign rfl) ?_
   refine rl_nil ?_
   exact hL7 _ () h _ (join_imp 29 rfl rfl (mod_cons (j := 7) rfl (fun _ _ h => h) (mod_cons (j := 8) rfl (fun _ _ h => h) mod_nil)) .nil)
  ·
   refine w_condM h rfl (fun _ h => ?_) (fun _ h => ?_)
   ·
    refine wsr ?_
    refine oV (v_assign rfl) ?_
    refine rnf ?_
    refine wsr ?_
    refine oV (v_move rfl) ?_
    refine rnf ?_
    refine w_condM h rfl (fun _ h => ?_) (fun _ h => ?_)
    ·
     refine w_region ?_
     refine oV (v_move rfl) ?_
     refine oV (v_toU Tryd.underlying3 Tryd.underlying41 rfl) ?_
     refine cal_inv h fun y59 hy59 h => ?_
     refine oT (t_call (h_Digits_w fuel hy59) hT (.same rfl .nil) .nil (fun R H' hR => ?_))
     obtain ⟨rfl, rfl⟩ := hR
     refine asr_inv h fun q60 h => ?_
     refine oV (v_cat rfl rfl q60) ?_
     refine asr_inv h fun q61 h => ?_
     refine oV (v_cat rfl rfl q61) ?_
     refine oV (v_assign rfl) ?_
     refine rl_nil ?_
     exact hJ58 _ () h _ (join_imp 8 rfl rfl (mod_cons (j := 9) rfl (fun _ _ h => h) mod_nil) .nil)
    ·
     refine w_skip ?_
     exact hJ58 _ () h _ (join_imp 2 rfl rfl (mod_cons (j := 9) rfl (fun _ _ h => h) mod_nil) .nil)
   ·
    refine w_skip ?_
    exact hJ58 _ () h _ (join_imp 0 rfl rfl (mod_cons (j := 9) rfl (fun _ _ h => h) mod_nil) .nil)
 ·
  refine w_exit ?_
  refine exi_nxt ?_
  refine eL7 _ _ ?_
  refine exi_block ?_
  refine fin_nxt ?_
  refine wsr ?_
  refine oV (v_move rfl) ?_
  refine asr_inv h fun q68 h => ?_
  refine oV (v_cat rfl rfl q68) ?_
  refine asr_inv h fun q69 h => ?_
  refine oV (v_cat rfl rfl q69) ?_
  refine cal_inv h fun y70 hy70 h => ?_
  refine oT (t_call (r05_Parse_w hy70) hT (.same rfl .nil) .nil (fun R H' hR => ?_))
  obtain ⟨rfl, rfl⟩ := hR
  refine oV (v_move rfl) ?_
  refine oV (v_extract rfl rfl) ?_
  refine oV (v_extract rfl rfl) ?_
  refine oV (v_extract rfl rfl) ?_
  refine oT (t_alloc _ ze26 fun b71 => ?_)
  refine oT (t_storeC (y' := (y70.1 : GMod)) ty26 rfl rfl (fun _ _ h => h) .here rfl ?_)
  refine rl_upd (upd_imm 10 .here rfl) ?_
  refine oV (v_assign rfl) ?_
  refine oV (v_assign rfl) ?_
  refine rnf ?_
  refine wsr ?_
  refine oV (v_loadI ty26 rfl) ?_
  refine cal_inv h fun y72 hy72 h => ?_
  refine oT (t_call (refs_Order_w hy72) hT (.same rfl .nil) .nil (fun R H' hR => ?_))
  obtain ⟨rfl, rfl⟩ := hR
  refine oV (v_move rfl) ?_
  refine oV (v_extract rfl rfl) ?_
  refine oV (v_extract rfl rfl) ?_
  refine oV (v_extract rfl rfl) ?_
  refine oV (v_assign rfl) ?_
  refine oV (v_assign rfl) ?_
  refine oV (v_assign rfl) ?_
  refine rnf ?_
  refine wsr ?_
  refine cal_inv h fun y73 hy73 h => ?_
  refine oT (t_call (law07_awake_w hy73) hT .nil .nil (fun R H' hR => ?_))
  obtain ⟨rfl, rfl⟩ := hR
  refine oV (v_move rfl) ?_
  refine rl_j (ι := Bool) (γ := Unit) (fun q74 g74 => [(74, isv (q74))]) (fun q74 g74 => []) .nil h 3 rfl (fun q74 g74 h => ?_) (fun J75 h hJ75 => ?_)
  ·
   refine oV (v_move rfl) ?_
   refine rl_j (ι := Bool) (γ := Unit) (fun q77 g77 => [(105, isv (q77))]) (fun q77 g77 => []) .nil h 30 rfl (fun q77 g77 h => ?_) (fun J78 h hJ78 => ?_)
   ·
    refine oV (v_assign rfl) ?_
    refine rnf ?_
    refine w_ret ?_
    refine ret_post (.tmp rfl .nil) .nil ?_
    obtain rfl := Option.some.inj h
    exact ⟨rfl, rfl⟩
   ·
    refine rl_condM (j := 75) h rfl (fun g79 h => ?_) (fun g79 h => ?_)
    ·
     refine op_take rfl rfl (dj := 75) rfl g79 (OpV.t (v_move rfl) ?_)
     refine op_take rfl rfl (dj := 75) rfl g79 (OpV.t (v_move rfl) ?_)
     refine rl_j (ι := Bool) (γ := Unit) (fun q80 g80 => [(80, isv (q80))]) (fun q80 g80 => []) .nil h 3 rfl (fun q80 g80 h => ?_) (fun J81 h hJ81 => ?_)
     ·
      refine op_take rfl rfl (dj := 75) rfl g79 (OpV.t (v_move rfl) ?_)
      refine rl_j (ι := Bool) (γ := Unit) (fun q83 g83 => [(85, isv (q83))]) (fun q83 g83 => []) .nil h 4 rfl (fun q83 g83 h => ?_) (fun J84 h hJ84 => ?_)
      ·
       refine op_take rfl rfl (dj := 75) rfl g79 (OpV.t (v_move rfl) ?_)
       refine rl_j (ι := Bool) (γ := Unit) (fun q86 g86 => [(90, isv (q86))]) (fun q86 g86 => []) .nil h 4 rfl (fun q86 g86 h => ?_) (fun J87 h hJ87 => ?_)
       ·
        refine op_take rfl rfl (dj := 75) rfl g79 (OpV.t (v_move rfl) ?_)
        refine rl_j (ι := Bool) (γ := Unit) (fun q89 g89 => [(104, isv (q89))]) (fun q89 g89 => []) .nil h 13 rfl (fun q89 g89 h => ?_) (fun J90 h hJ90 => ?_)
        ·
         refine oV (v_pick_t rfl g79 rfl) ?_
         exact hJ78 _ () h _ (join_imp 10 rfl rfl (mod_cons (j := 105) rfl (fun _ _ h => h) mod_nil) .nil)
        ·
         refine rl_condM (j := 91) h rfl (fun g91 h => ?_) (fun g91 h => ?_)
         ·
          refine op_pass rfl (dj := 91) rfl g91 ?_
          refine op_pass rfl (dj := 91) rfl g91 ?_
          refine op_pass rfl (dj := 91) rfl g91 ?_
          refine op_passU rfl (dj := 94) rfl ?_
          refine op_passU rfl (dj := 94) rfl ?_
          refine op_pass rfl (dj := 91) rfl g91 ?_
          refine op_pass rfl (dj := 91) rfl g91 ?_
          refine op_passU rfl (dj := 98) rfl ?_
          refine op_passU rfl (dj := 98) rfl ?_
          refine op_passU rfl (dj := 98) rfl ?_
          refine op_passU rfl (dj := 98) rfl ?_
          refine op_pass rfl (dj := 91) rfl g91 ?_
          refine op_take rfl rfl (dj := 75) rfl g79 (OpV.t (v_pick_t rfl g91 rfl) ?_)
          exact hJ90 _ () h _ (join_imp 13 rfl rfl (mod_cons (j := 104) rfl (fun _ _ h => h) mod_nil) .nil)
         ·
          refine op_take rfl rfl (dj := 91) rfl g91 (OpV.t (v_move rfl) ?_)
          refine op_take rfl rfl (dj := 91) rfl g91 (OpV.t (v_not rfl) ?_)
          refine op_take rfl rfl (dj := 91) rfl g91 (OpV.t (v_move rfl) ?_)
          refine rl_j (ι := Bool) (γ := Unit) (fun q92 g92 => [(97, isv (q92))]) (fun q92 g92 => []) .nil h 3 rfl (fun q92 g92 h => ?_) (fun J93 h hJ93 => ?_)
          ·
           refine op_take rfl rfl (dj := 91) rfl g91 (OpV.t (v_move rfl) ?_)
           refine rl_j (ι := Bool) (γ := Unit) (fun q95 g95 => [(103, isv (q95))]) (fun q95 g95 => []) .nil h 5 rfl (fun q95 g95 h => ?_) (fun J96 h hJ96 => ?_)
           ·
            refine op_take rfl rfl (dj := 75) rfl g79 (OpV.t (v_pick_f rfl g91 rfl) ?_)
            exact hJ90 _ () h _ (join_imp 7 rfl rfl (mod_cons (j := 104) rfl (fun _ _ h => h) mod_nil) .nil)
           ·
            refine rl_condM (j := 98) h rfl (fun g97 h => ?_) (fun g97 h => ?_)
            ·
             refine op_take rfl rfl (dj := 98) rfl g97 (OpV.t (v_move rfl) ?_)
             refine op_take rfl rfl (dj := 98) rfl g97 (OpV.t (v_ln (l := y72.1) rfl (fun _ _ h => h) sl23) ?_)
             refine op_take rfl rfl (dj := 98) rfl g97 (OpV.t (v_move rfl) ?_)
             refine op_take rfl rfl (dj := 98) rfl g97 (OpV.t (v_eql rfl rfl) ?_)
             refine op_take rfl rfl (dj := 91) rfl g91 (OpV.t (v_pick_t rfl g97 rfl) ?_)
             exact hJ96 _ () h _ (join_imp 5 rfl rfl (mod_cons (j := 103) rfl (fun _ _ h => h) mod_nil) .nil)
            ·
             refine op_pass rfl (dj := 98) rfl g97 ?_
             refine op_pass rfl (dj := 98) rfl g97 ?_
             refine op_pass rfl (dj := 98) rfl g97 ?_
             refine op_pass rfl (dj := 98) rfl g97 ?_
             refine op_take rfl rfl (dj := 91) rfl g91 (OpV.t (v_pick_f rfl g97 rfl) ?_)
             exact hJ96 _ () h _ (join_imp 5 rfl rfl (mod_cons (j := 103) rfl (fun _ _ h => h) mod_nil) .nil)
          ·
           refine rl_condM (j := 94) h rfl (fun g94 h => ?_) (fun g94 h => ?_)
           ·
            refine op_take rfl rfl (dj := 94) rfl g94 (OpV.t (v_move rfl) ?_)
            refine op_take rfl rfl (dj := 94) rfl g94 (OpV.t (v_eql rfl rfl) ?_)
            refine op_take rfl rfl (dj := 91) rfl g91 (OpV.t (v_pick_t rfl g94 rfl) ?_)
            exact hJ93 _ () h _ (join_imp 3 rfl rfl (mod_cons (j := 97) rfl (fun _ _ h => h) mod_nil) .nil)
           ·
            refine op_pass rfl (dj := 94) rfl g94 ?_
            refine op_pass rfl (dj := 94) rfl g94 ?_
            refine op_take rfl rfl (dj := 91) rfl g91 (OpV.t (v_pick_f rfl g94 rfl) ?_)
            exact hJ93 _ () h _ (join_imp 3 rfl rfl (mod_cons (j := 97) rfl (fun _ _ h => h) mod_nil) .nil)
       ·
        refine rl_condM (j := 86) h rfl (fun g88 h => ?_) (fun g88 h => ?_)
        ·
         refine op_take rfl rfl (dj := 86) rfl g88 (OpV.t (v_move rfl) ?_)
         refine op_take rfl rfl (dj := 86) rfl g88 (OpV.t (v_ln (l := y72.1) rfl (fun _ _ h => h) sl23) ?_)
         refine op_take rfl rfl (dj := 86) rfl g88 (OpV.t (v_eql rfl rfl) ?_)
         refine op_take rfl rfl (dj := 75) rfl g79 (OpV.t (v_pick_t rfl g88 rfl) ?_)
         exact hJ87 _ () h _ (join_imp 4 rfl rfl (mod_cons (j := 90) rfl (fun _ _ h => h) mod_nil) .nil)
        ·
         refine op_pass rfl (dj := 86) rfl g88 ?_
         refine op_pass rfl (dj := 86) rfl g88 ?_
         refine op_pass rfl (dj := 86) rfl g88 ?_
         refine op_take rfl rfl (dj := 75) rfl g79 (OpV.t (v_pick_f rfl g88 rfl) ?_)
         exact hJ87 _ () h _ (join_imp 4 rfl rfl (mod_cons (j := 90) rfl (fun _ _ h => h) mod_nil) .nil)
      ·
       refine rl_condM (j := 81) h rfl (fun g85 h => ?_) (fun g85 h => ?_)
       ·
        refine op_take rfl rfl (dj := 81) rfl g85 (OpV.t (v_move rfl) ?_)
        refine op_take rfl rfl (dj := 81) rfl g85 (OpV.t (v_move rfl) ?_)
        refine op_take rfl rfl (dj := 81) rfl g85 (OpV.t (v_eql rfl rfl) ?_)
        refine op_take rfl rfl (dj := 75) rfl g79 (OpV.t (v_pick_t rfl g85 rfl) ?_)
        exact hJ84 _ () h _ (join_imp 4 rfl rfl (mod_cons (j := 85) rfl (fun _ _ h => h) mod_nil) .nil)
       ·
        refine op_pass rfl (dj := 81) rfl g85 ?_
        refine op_pass rfl (dj := 81) rfl g85 ?_
        refine op_pass rfl (dj := 81) rfl g85 ?_
        refine op_take rfl rfl (dj := 75) rfl g79 (OpV.t (v_pick_f rfl g85 rfl) ?_)
        exact hJ84 _ () h _ (join_imp 4 rfl rfl (mod_cons (j := 85) rfl (fun _ _ h => h) mod_nil) .nil)
     ·
      refine rl_condM (j := 77) h rfl (fun g82 h => ?_) (fun g82 h => ?_)
      ·
       refine op_take rfl rfl (dj := 77) rfl g82 (OpV.t (v_move rfl) ?_)
       refine op_take rfl rfl (dj := 77) rfl g82 (OpV.t (v_eql rfl rfl) ?_)
       refine op_take rfl rfl (dj := 75) rfl g79 (OpV.t (v_pick_t rfl g82 rfl) ?_)
       exact hJ81 _ () h _ (join_imp 3 rfl rfl (mod_cons (j := 80) rfl (fun _ _ h => h) mod_nil) .nil)
      ·
       refine op_pass rfl (dj := 77) rfl g82 ?_
       refine op_pass rfl (dj := 77) rfl g82 ?_
       refine op_take rfl rfl (dj := 75) rfl g79 (OpV.t (v_pick_f rfl g82 rfl) ?_)
       exact hJ81 _ () h _ (join_imp 3 rfl rfl (mod_cons (j := 80) rfl (fun _ _ h => h) mod_nil) .nil)
    ·
     refine op_pass rfl (dj := 75) rfl g79 ?_
     refine op_pass rfl (dj := 75) rfl g79 ?_
     refine op_passU rfl (dj := 77) rfl ?_
     refine op_passU rfl (dj := 77) rfl ?_
     refine op_pass rfl (dj := 75) rfl g79 ?_
     refine op_pass rfl (dj := 75) rfl g79 ?_
     refine op_passU rfl (dj := 81) rfl ?_
     refine op_passU rfl (dj := 81) rfl ?_
     refine op_passU rfl (dj := 81) rfl ?_
     refine op_pass rfl (dj := 75) rfl g79 ?_
     refine op_pass rfl (dj := 75) rfl g79 ?_
     refine op_passU rfl (dj := 86) rfl ?_
     refine op_passU rfl (dj := 86) rfl ?_
     refine op_passU rfl (dj := 86) rfl ?_
     refine op_pass rfl (dj := 75) rfl g79 ?_
     refine op_pass rfl (dj := 75) rfl g79 ?_
     refine op_passU rfl (dj := 91) rfl ?_
     refine op_passU rfl (dj := 91) rfl ?_
     refine op_passU rfl (dj := 91) rfl ?_
     refine op_passU rfl (dj := 94) rfl ?_
     refine op_passU rfl (dj := 94) rfl ?_
     refine op_passU rfl (dj := 91) rfl ?_
     refine op_passU rfl (dj := 91) rfl ?_
     refine op_passU rfl (dj := 98) rfl ?_
     refine op_passU rfl (dj := 98) rfl ?_
     refine op_passU rfl (dj := 98) rfl ?_
     refine op_passU rfl (dj := 98) rfl ?_
     refine op_passU rfl (dj := 91) rfl ?_
     refine op_pass rfl (dj := 75) rfl g79 ?_
     refine oV (v_pick_f rfl g79 rfl) ?_
     exact hJ78 _ () h _ (join_imp 30 rfl rfl (mod_cons (j := 105) rfl (fun _ _ h => h) mod_nil) .nil)
  ·
   refine rl_condM (j := 71) h rfl (fun g76 h => ?_) (fun g76 h => ?_)
   ·
    refine op_take rfl rfl (dj := 71) rfl g76 (OpV.t (v_move rfl) ?_)
    refine op_take rfl rfl (dj := 71) rfl g76 (OpV.t (v_eql rfl rfl) ?_)
    refine oV (v_pick_t rfl g76 rfl) ?_
    exact hJ75 _ () h _ (join_imp 3 rfl rfl (mod_cons (j := 74) rfl (fun _ _ h => h) mod_nil) .nil)
   ·
    refine op_pass rfl (dj := 71) rfl g76 ?_
    refine op_pass rfl (dj := 71) rfl g76 ?_
    refine oV (v_pick_f rfl g76 rfl) ?_
    exact hJ75 _ () h _ (join_imp 3 rfl rfl (mod_cons (j := 74) rfl (fun _ _ h => h) mod_nil) .nil)

end Go.Proofs.YtdcdndflfhaejaaDoor


namespace Go.Proofs.YtdcdndflfhaejaaDoor
open Go.Sy
set_option maxRecDepth 4000
theorem law07_RefsMissing_w : ∀ {a_n_ : Int} {a_at_ : Int} {a_twice : Bool} {r : Bool}, law07_RefsMissing a_n_ a_at_ a_twice = some r → Ctr Tryd.prog 7 [isv (a_n_), isv (a_at_), isv (a_twice)] [] (fun R H => R = oneOf [isv (r)] ∧ H = []) := by
 intro a_n_ a_at_ a_twice r h
 unfold law07_RefsMissing at h
 refine spec_intro Tryd.func7 rfl (by decide +kernel) (by rfl) fun w0 S0 hT => ?_
 refine wsr ?_
 refine oV (v_assign rfl) ?_
 refine rnf ?_
 refine wsr ?_
 refine oV (v_move rfl) ?_
 refine oV (v_toU Tryd.underlying3 Tryd.underlying39 rfl) ?_
 refine asr_inv h fun q1 h => ?_
 refine oV (v_rem64 rfl rfl q1) ?_
 refine ck_inv h fun q2 h => ?_
 refine oV (v_u64i Tryd.underlying39 Tryd.underlying3 rfl q2) ?_
 refine ck_inv h fun q3 h => ?_
 refine oV (v_add rfl rfl q3) ?_
 refine oV (v_assign rfl) ?_
 refine rnf ?_
 refine wsr ?_
 refine oV (v_move rfl) ?_
 refine oV (v_toU Tryd.underlying3 Tryd.underlying39 rfl) ?_
 refine oV (v_move rfl) ?_
 refine oV (v_toU Tryd.underlying3 Tryd.underlying39 rfl) ?_
 refine asr_inv h fun q4 h => ?_
 refine oV (v_rem64 rfl rfl q4) ?_
 refine ck_inv h fun q5 h => ?_
 refine oV (v_u64i Tryd.underlying39 Tryd.underlying3 rfl q5) ?_
 refine oV (v_assign rfl) ?_
 refine rnf ?_
 refine wsr ?_
 refine oV (v_assign rfl) ?_
 refine rnf ?_
 refine w_seq ?_
 refine wsr ?_
 refine oV (v_assign rfl) ?_
 refine rnf ?_
 refine w_block ?_
 refine w_lp (ι := Str × Int) (γ := Unit) (fun q6 g6 => [(7, isv (q6.1)), (8, isv (q6.2))]) (fun q6 g6 => []) h () (mod_cons (j := 7) rfl (fun _ _ h => h) (mod_cons (j := 8) rfl (fun _ _ h => h) mod_nil)) .nil (fun L7 q6 g6 Q102 h hL7 eL7 rL7 => ?_)
 refine w_seq ?_
 refine wsr ?_
 refine oV (v_move rfl) ?_
 refine oV (v_move rfl) ?_
 refine oV (v_lss rfl rfl) ?_
 refine rnf ?_
 refine w_condM h rfl (fun _ h => ?_) (fun _ h => ?_)
 ·
  refine wkf ?_
  refine w_seq ?_
  refine w_block ?_
  refine wsr ?_
  refine oV (v_move rfl) ?_
  refine oV (v_toU Tryd.underlying3 Tryd.underlying41 rfl) ?_
  refine cal_inv h fun y55 hy55 h => ?_
  refine oT (t_call (h_Digits_w fuel hy55) hT (.same rfl .nil) .nil (fun R H' hR => ?_))
  obtain ⟨rfl, rfl⟩ := hR
  refine asr_inv h fun q56 h => ?_
  refine oV (v_cat rfl rfl q56) ?_
  refine oV (v_assign rfl) ?_
  refine oV (v_assign rfl) ?_
  refine rnf ?_
  refine w_seq ?_
  refine wsr ?_
  refine oV (v_move rfl) ?_
  refine oV (v_move rfl) ?_
  refine oV (v_eql rfl rfl) ?_
  refine rnf ?_
  refine w_J (ι := Str) (γ := Unit) (fun q57 g57 => [(10, isv (q57))]) (fun q57 g57 => []) .nil h (fun q57 g57 h => ?_) (fun J58 h hJ58 => ?_)
  ·
   refine w_seq ?_
   refine wsr ?_
   refine oV (v_move rfl) ?_
   refine oV (v_move rfl) ?_
   refine rl_j (ι := Bool) (γ := Unit) (fun q59 g59 => [(46, isv (q59))]) (fun q59 g59 => []) .nil h 5 rfl (fun q59 g59 h => ?_) (fun J60 h hJ60 => ?_)
   ·
    refine rnf ?_
    refine w_J (ι := Str) (γ := Unit) (fun q63 g63 => [(9, isv (q63))]) (fun q63 g63 => []) .nil h (fun q63 g63 h => ?_) (fun J64 h hJ64 => ?_)
    ·
     refine w_region ?_
     refine oV (v_move rfl) ?_
     refine asr_inv h fun q65 h => ?_
     refine oV (v_cat rfl rfl q65) ?_
     refine oV (v_move rfl) ?_
     refine asr_inv h fun q66 h => ?_
     refine oV (v_cat rfl rfl q66) ?_
     refine asr_inv h fun q67 h => ?_
     refine oV (v_cat rfl rfl q67) ?_
     refine oV (v_move rfl) ?_
     refine asr_inv h fun q68 h => ?_
     refine oV (v_cat rfl rfl q68) ?_
     refine oV (v_assign rfl) ?_
     refine rl_nil ?_
     refine fin_block ?_
     refine fin_nxt ?_
     refine w_region ?_
     refine oV (v_move rfl) ?_
     refine ck_inv h fun q69 h => ?_
     refine oV (v_add rfl rfl q69) ?_
     refine oV (v_assign rfl) ?_
     refine rl_nil ?_
     exact hL7 _ () h _ (join_imp 30 rfl rfl (mod_cons (j := 7) rfl (fun _ _ h => h) (mod_cons (j := 8) rfl (fun _ _ h => h) mod_nil)) .nil)
    ·
     refine w_condM h rfl (fun _ h => ?_) (fun _ h => ?_)
     ·
      refine w_region ?_
      refine oV (v_assign rfl) ?_
      refine rl_nil ?_
      exact hJ64 _ () h _ (join_imp 1 rfl rfl (mod_cons (j := 9) rfl (fun _ _ h => h) mod_nil) .nil)
     ·
      refine w_skip ?_
      exact hJ64 _ () h _ (join_imp 0 rfl rfl (mod_cons (j := 9) rfl (fun _ _ h => h) mod_nil) .nil)
   ·
    refine rl_condM (j := 41) h rfl (fun g61 h => ?_) (fun g61 h => ?_)
    ·
     refine op_take rfl rfl (dj := 41) rfl g61 (OpV.t (v_move rfl) ?_)
     refine op_take rfl rfl (dj := 41) rfl g61 (OpV.t (v_move rfl) ?_)
     refine ck_inv h fun q62 h => ?_
     refine op_take rfl rfl (dj := 41) rfl g61 (OpV.t (v_sub rfl rfl q62) ?_)
     refine op_take rfl rfl (dj := 41) rfl g61 (OpV.t (v_eql rfl rfl) ?_)
     refine oV (v_pick_t rfl g61 rfl) ?_
     exact hJ60 _ () h _ (join_imp 5 rfl rfl (mod_cons (j := 46) rfl (fun _ _ h => h) mod_nil) .nil)
    ·
     refine op_pass rfl (dj := 41) rfl g61 ?_
     refine op_pass rfl (dj := 41) rfl g61 ?_
     refine op_pass rfl (dj := 41) rfl g61 ?_
     refine op_pass rfl (dj := 41) rfl g61 ?_
     refine oV (v_pick_f rfl g61 rfl) ?_
     exact hJ60 _ () h _ (join_imp 5 rfl rfl (mod_cons (j := 46) rfl (fun _ _ h => h) mod_nil) .nil)
  ·
   refine w_condM h rfl (fun _ h => ?_) (fun _ h => ?_)
   ·
    refine w_region ?_
    refine oV (v_assign rfl) ?_
    refine rl_nil ?_
    exact hJ58 _ () h _ (join_imp 1 rfl rfl (mod_cons (j := 10) rfl (fun _ _ h => h) mod_nil) .nil)
   ·
    refine w_skip ?_
    exact hJ58 _ () h _ (join_imp 0 rfl rfl (mod_cons (j := 10) rfl (fun _ _ h => h) mod_nil) .nil)
 ·
  refine w_exit ?_
  refine exi_nxt ?_
  refine eL7 _ _ ?_
  refine exi_block ?_
  refine fin_nxt ?_
  refine wsr ?_
  refine oV (v_move rfl) ?_
  refine asr_inv h fun q70 h => ?_
  refine oV (v_cat rfl rfl q70) ?_
  refine asr_inv h fun q71 h => ?_
  refine oV (v_cat rfl rfl q71) ?_
  refine cal_inv h fun y72 hy72 h => ?_
  refine oT (t_call (r05_Parse_w hy72) hT (.same rfl .nil) .nil (fun R H' hR => ?_))
  obtain ⟨rfl, rfl⟩ := hR
  refine oV (v_move rfl) ?_
  refine oV (v_extract rfl rfl) ?_
  refine oV (v_extract rfl rfl) ?_
  refine oV (v_extract rfl rfl) ?_
  refine oT (t_alloc _ ze26 fun b73 => ?_)
  refine oT (t_storeC (y' := (y72.1 : GMod)) ty26 rfl rfl (fun _ _ h => h) .here rfl ?_)
  refine rl_upd (upd_imm 11 .here rfl) ?_
  refine oV (v_assign rfl) ?_
  refine oV (v_assign rfl) ?_
  refine rnf ?_
  refine wsr ?_
  refine oV (v_loadI ty26 rfl) ?_
  refine cal_inv h fun y74 hy74 h => ?_
  refine oT (t_call (refs_Order_w hy74) hT (.same rfl .nil) .nil (fun R H' hR => ?_))
  obtain ⟨rfl, rfl⟩ := hR
  refine oV (v_move rfl) ?_
  refine oV (v_extract rfl rfl) ?_
  refine oV (v_extract rfl rfl) ?_
  refine oV (v_extract rfl rfl) ?_
  refine oV (v_assign rfl) ?_
  refine oV (v_assign rfl) ?_
  refine oV (v_assign rfl) ?_
  refine rnf ?_
  refine w_seq ?_
  refine wsr ?_
  refine oV (v_move rfl) ?_
  refine rnf ?_
  refine w_condM h rfl (fun _ h => ?_) (fun _ h => ?_)
  ·
   refine wsr ?_
   refine cal_inv h fun y75 hy75 h => ?_
   refine oT (t_call (law07_awake_w hy75) hT .nil .nil (fun R H' hR => ?_))
   obtain ⟨rfl, rfl⟩ := hR
   refine oV (v_move rfl) ?_
   refine rl_j (ι := Bool) (γ := Unit) (fun q76 g76 => [(73, isv (q76))]) (fun q76 g76 => []) .nil h 3 rfl (fun q76 g76 h => ?_) (fun J77 h hJ77 => ?_)
   ·
    refine oV (v_move rfl) ?_
    refine rl_j (ι := Bool) (γ := Unit) (fun q79 g79 => [(77, isv (q79))]) (fun q79 g79 => []) .nil h 3 rfl (fun q79 g79 h => ?_) (fun J80 h hJ80 => ?_)
    ·
     refine oV (v_move rfl) ?_
     refine rl_j (ι := Bool) (γ := Unit) (fun q82 g82 => [(83, isv (q82))]) (fun q82 g82 => []) .nil h 5 rfl (fun q82 g82 h => ?_) (fun J83 h hJ83 => ?_)
     ·
      refine oV (v_move rfl) ?_
      refine rl_j (ι := Bool) (γ := Unit) (fun q86 g86 => [(88, isv (q86))]) (fun q86 g86 => []) .nil h 4 rfl (fun q86 g86 h => ?_) (fun J87 h hJ87 => ?_)
      ·
       refine oV (v_assign rfl) ?_
       refine rnf ?_
       refine w_ret ?_
       refine ret_nxt ?_
       refine ret_post (.tmp rfl .nil) .nil ?_
       obtain rfl := Option.some.inj h
       exact ⟨rfl, rfl⟩
      ·
       refine rl_condM (j := 84) h rfl (fun g88 h => ?_) (fun g88 h => ?_)
       ·
        refine op_take rfl rfl (dj := 84) rfl g88 (OpV.t (v_move rfl) ?_)
        refine op_take rfl rfl (dj := 84) rfl g88 (OpV.t (v_ln (l := y74.1) rfl (fun _ _ h => h) sl23) ?_)
        refine op_take rfl rfl (dj := 84) rfl g88 (OpV.t (v_eql rfl rfl) ?_)
        refine oV (v_pick_t rfl g88 rfl) ?_
        exact hJ87 _ () h _ (join_imp 4 rfl rfl (mod_cons (j := 88) rfl (fun _ _ h => h) mod_nil) .nil)
       ·
        refine op_pass rfl (dj := 84) rfl g88 ?_
        refine op_pass rfl (dj := 84) rfl g88 ?_
        refine op_pass rfl (dj := 84) rfl g88 ?_
        refine oV (v_pick_f rfl g88 rfl) ?_
        exact hJ87 _ () h _ (join_imp 4 rfl rfl (mod_cons (j := 88) rfl (fun _ _ h => h) mod_nil) .nil)
     ·
      refine rl_condM (j := 78) h rfl (fun g84 h => ?_) (fun g84 h => ?_)
      ·
       refine op_take rfl rfl (dj := 78) rfl g84 (OpV.t (v_move rfl) ?_)
       refine op_take rfl rfl (dj := 78) rfl g84 (OpV.t (v_move rfl) ?_)
       refine ck_inv h fun q85 h => ?_
       refine op_take rfl rfl (dj := 78) rfl g84 (OpV.t (v_sub rfl rfl q85) ?_)
       refine op_take rfl rfl (dj := 78) rfl g84 (OpV.t (v_eql rfl rfl) ?_)
       refine oV (v_pick_t rfl g84 rfl) ?_
       exact hJ83 _ () h _ (join_imp 5 rfl rfl (mod_cons (j := 83) rfl (fun _ _ h => h) mod_nil) .nil)
      ·
       refine op_pass rfl (dj := 78) rfl g84 ?_
       refine op_pass rfl (dj := 78) rfl g84 ?_
       refine op_pass rfl (dj := 78) rfl g84 ?_
       refine op_pass rfl (dj := 78) rfl g84 ?_
       refine oV (v_pick_f rfl g84 rfl) ?_
       exact hJ83 _ () h _ (join_imp 5 rfl rfl (mod_cons (j := 83) rfl (fun _ _ h => h) mod_nil) .nil)
    ·
     refine rl_condM (j := 74) h rfl (fun g81 h => ?_) (fun g81 h => ?_)
     ·
      refine op_take rfl rfl (dj := 74) rfl g81 (OpV.t (v_move rfl) ?_)
      refine op_take rfl rfl (dj := 74) rfl g81 (OpV.t (v_eql rfl rfl) ?_)
      refine oV (v_pick_t rfl g81 rfl) ?_
      exact hJ80 _ () h _ (join_imp 3 rfl rfl (mod_cons (j := 77) rfl (fun _ _ h => h) mod_nil) .nil)
     ·
      refine op_pass rfl (dj := 74) rfl g81 ?_
      refine op_pass rfl (dj := 74) rfl g81 ?_
      refine oV (v_pick_f rfl g81 rfl) ?_
      exact hJ80 _ () h _ (join_imp 3 rfl rfl (mod_cons (j := 77) rfl (fun _ _ h => h) mod_nil) .nil)
   ·
    refine rl_condM (j := 70) h rfl (fun g78 h => ?_) (fun g78 h => ?_)
    ·
     refine op_take rfl rfl (dj := 70) rfl g78 (OpV.t (v_move rfl) ?_)
     refine op_take rfl rfl (dj := 70) rfl g78 (OpV.t (v_eql rfl rfl) ?_)
     refine oV (v_pick_t rfl g78 rfl) ?_
     exact hJ77 _ () h _ (join_imp 3 rfl rfl (mod_cons (j := 73) rfl (fun _ _ h => h) mod_nil) .nil)
    ·
     refine op_pass rfl (dj := 70) rfl g78 ?_
     refine op_pass rfl (dj := 70) rfl g78 ?_
     refine oV (v_pick_f rfl g78 rfl) ?_
     exact hJ77 _ () h _ (join_imp 3 rfl rfl (mod_cons (j := 73) rfl (fun _ _ h => h) mod_nil) .nil)
  ·
   refine wkf ?_
   refine wsr ?_
   refine cal_inv h fun y89 hy89 h => ?_
   refine oT (t_call (law07_awake_w hy89) hT .nil .nil (fun R H' hR => ?_))
   obtain ⟨rfl, rfl⟩ := hR
   refine oV (v_move rfl) ?_
   refine rl_j (ι := Bool) (γ := Unit) (fun q90 g90 => [(93, isv (q90))]) (fun q90 g90 => []) .nil h 3 rfl (fun q90 g90 h => ?_) (fun J91 h hJ91 => ?_)
   ·
    refine oV (v_move rfl) ?_
    refine rl_j (ι := Bool) (γ := Unit) (fun q93 g93 => [(97, isv (q93))]) (fun q93 g93 => []) .nil h 3 rfl (fun q93 g93 h => ?_) (fun J94 h hJ94 => ?_)
    ·
     refine oV (v_move rfl) ?_
     refine rl_j (ι := Bool) (γ := Unit) (fun q96 g96 => [(102, isv (q96))]) (fun q96 g96 => []) .nil h 4 rfl (fun q96 g96 h => ?_) (fun J97 h hJ97 => ?_)
     ·
      refine oV (v_move rfl) ?_
      refine rl_j (ι := Bool) (γ := Unit) (fun q99 g99 => [(107, isv (q99))]) (fun q99 g99 => []) .nil h 4 rfl (fun q99 g99 h => ?_) (fun J100 h hJ100 => ?_)
      ·
       refine oV (v_assign rfl) ?_
       refine rnf ?_
       refine w_ret ?_
       refine ret_post (.tmp rfl .nil) .nil ?_
       obtain rfl := Option.some.inj h
       exact ⟨rfl, rfl⟩
      ·
       refine rl_condM (j := 103) h rfl (fun g101 h => ?_) (fun g101 h => ?_)
       ·
        refine op_take rfl rfl (dj := 103) rfl g101 (OpV.t (v_move rfl) ?_)
        refine op_take rfl rfl (dj := 103) rfl g101 (OpV.t (v_ln (l := y74.1) rfl (fun _ _ h => h) sl23) ?_)
        refine op_take rfl rfl (dj := 103) rfl g101 (OpV.t (v_eql rfl rfl) ?_)
        refine oV (v_pick_t rfl g101 rfl) ?_
        exact hJ100 _ () h _ (join_imp 4 rfl rfl (mod_cons (j := 107) rfl (fun _ _ h => h) mod_nil) .nil)
       ·
        refine op_pass rfl (dj := 103) rfl g101 ?_
        refine op_pass rfl (dj := 103) rfl g101 ?_
        refine op_pass rfl (dj := 103) rfl g101 ?_
        refine oV (v_pick_f rfl g101 rfl) ?_
        exact hJ100 _ () h _ (join_imp 4 rfl rfl (mod_cons (j := 107) rfl (fun _ _ h => h) mod_nil) .nil)
     ·
      refine rl_condM (j := 98) h rfl (fun g98 h => ?_) (fun g98 h => ?_)
      ·
       refine op_take rfl rfl (dj := 98) rfl g98 (OpV.t (v_move rfl) ?_)
       refine op_take rfl rfl (dj := 98) rfl g98 (OpV.t (v_move rfl) ?_)
       refine op_take rfl rfl (dj := 98) rfl g98 (OpV.t (v_eql rfl rfl) ?_)
       refine oV (v_pick_t rfl g98 rfl) ?_
       exact hJ97 _ () h _ (join_imp 4 rfl rfl (mod_cons (j := 102) rfl (fun _ _ h => h) mod_nil) .nil)
      ·
       refine op_pass rfl (dj := 98) rfl g98 ?_
       refine op_pass rfl (dj := 98) rfl g98 ?_
       refine op_pass rfl (dj := 98) rfl g98 ?_
       refine oV (v_pick_f rfl g98 rfl) ?_
       exact hJ97 _ () h _ (join_imp 4 rfl rfl (mod_cons (j := 102) rfl (fun _ _ h => h) mod_nil) .nil)
    ·
     refine rl_condM (j := 94) h rfl (fun g95 h => ?_) (fun g95 h => ?_)
     ·
      refine op_take rfl rfl (dj := 94) rfl g95 (OpV.t (v_move rfl) ?_)
      refine op_take rfl rfl (dj := 94) rfl g95 (OpV.t (v_eql rfl rfl) ?_)
      refine oV (v_pick_t rfl g95 rfl) ?_
      exact hJ94 _ () h _ (join_imp 3 rfl rfl (mod_cons (j := 97) rfl (fun _ _ h => h) mod_nil) .nil)
     ·
      refine op_pass rfl (dj := 94) rfl g95 ?_
      refine op_pass rfl (dj := 94) rfl g95 ?_
      refine oV (v_pick_f rfl g95 rfl) ?_
      exact hJ94 _ () h _ (join_imp 3 rfl rfl (mod_cons (j := 97) rfl (fun _ _ h => h) mod_nil) .nil)
   ·
    refine rl_condM (j := 90) h rfl (fun g92 h => ?_) (fun g92 h => ?_)
    ·
     refine op_take rfl rfl (dj := 90) rfl g92 (OpV.t (v_move rfl) ?_)
     refine op_take rfl rfl (dj := 90) rfl g92 (OpV.t (v_eql rfl rfl) ?_)
     refine oV (v_pick_t rfl g92 rfl) ?_
     exact hJ91 _ () h _ (join_imp 3 rfl rfl (mod_cons (j := 93) rfl (fun _ _ h => h) mod_nil) .nil)
    ·
     refine op_pass rfl (dj := 90) rfl g92 ?_
     refine op_pass rfl (dj := 90) rfl g92 ?_
     refine oV (v_pick_f rfl g92 rfl) ?_
     exact hJ91 _ () h _ (join_imp 3 rfl rfl (mod_cons (j := 93) rfl (fun _ _ h => h) mod_nil) .nil)


theorem law07_RefsChain_w : ∀ {a_turns : (List Int)} {r : Bool}, law07_RefsChain a_turns = some r → Ctr Tryd.prog 6 [isv (a_turns)] [] (fun R H => R = oneOf [isv (r)] ∧ H = []) := by
 intro a_turns r h
 unfold law07_RefsChain at h
 refine spec_intro Tryd.func6 rfl (by decide +kernel) (by rfl) fun w0 S0 hT => ?_
 refine wsr ?_
 refine oV (v_assign rfl) ?_
 refine rnf ?_
 refine wsr ?_
 refine oV (v_move rfl) ?_
 refine oV (v_ln (l := a_turns) rfl (fun _ _ h => h) sl23) ?_
 refine oV (v_assign rfl) ?_
 refine rnf ?_
 refine w_seq ?_
 refine wsr ?_
 refine oV (v_move rfl) ?_
 refine oV (v_eql rfl rfl) ?_
 refine oV (v_move rfl) ?_
 refine rl_j (ι := Bool) (γ := Unit) (fun q1 g1 => [(25, isv (q1))]) (fun q1 g1 => []) .nil h 3 rfl (fun q1 g1 h => ?_) (fun J2 h hJ2 => ?_)
 ·
  refine rnf ?_
  refine w_condM h rfl (fun _ h => ?_) (fun _ h => ?_)
  ·
   refine wsr ?_
   refine cal_inv h fun y4 hy4 h => ?_
   refine oT (t_call (law07_awake_w hy4) hT .nil .nil (fun R H' hR => ?_))
   obtain ⟨rfl, rfl⟩ := hR
   refine oV (v_assign rfl) ?_
   refine rnf ?_
   refine w_ret ?_
   refine ret_nxt ?_
   refine ret_post (.tmp rfl .nil) .nil ?_
   obtain rfl := Option.some.inj h
   exact ⟨rfl, rfl⟩
  ·
   refine wkf ?_
   refine wsr ?_
   refine oV (v_assign rfl) ?_
   refine rl_upd (upd_vec (α := Int)) ?_
   refine rl_upd (upd_slot 4 rfl nilvV) ?_
   refine rnf ?_
   refine w_seq ?_
   refine wsr ?_
   refine oV (v_assign rfl) ?_
   refine rnf ?_
   refine w_block ?_
   refine w_lp (ι := (List Int) × Int) (γ := Vt) (fun q6 g6 => [(4, vecv g6 (q6.1.length)), (5, isv (q6.2))]) (fun q6 g6 => [vecE g6 (q6.1 : List Int)]) h (none) (mod_cons (j := 4) rfl (vecvE (by first | rfl | simp)) (mod_cons (j := 5) rfl (fun _ _ h => h) mod_nil)) (.cons .here .nil) (fun L7 q6 g6 Q880 h hL7 eL7 rL7 => ?_)
   refine w_seq ?_
   refine wsr ?_
   refine oV (v_move rfl) ?_
   refine oV (v_move rfl) ?_
   refine oV (v_lss rfl rfl) ?_
   refine rnf ?_
   refine w_condM h rfl (fun _ h => ?_) (fun _ h => ?_)
   ·
    refine wkf ?_
    refine w_seq ?_
    refine w_block ?_
    refine w_region ?_
    refine oV (v_move rfl) ?_
    refine oV (v_move rfl) ?_
    refine oT (t_buildSlice (l := ([q6.2] : (List Int))) el23 (.cons rfl (fun _ _ h => h) .nil) rfl rfl ?_)
    refine asr_inv h fun q446 h => ?_
    refine oT (t_vappF (m := ([q6.2] : (List Int))) ap23_23 rfl rfl appv_isv .here (by first | rfl | simp) q446 fun v445 => ?_)
    refine oV (v_assign rfl) ?_
    refine rl_nil ?_
    refine fin_block ?_
    refine fin_nxt ?_
    refine w_region ?_
    refine oV (v_move rfl) ?_
    refine ck_inv h fun q447 h => ?_
    refine oV (v_add rfl rfl q447) ?_
    refine oV (v_assign rfl) ?_
    refine rl_nil ?_
    exact hL7 _ (v445) h _ (join_imp 13 rfl rfl (mod_cons (j := 4) rfl (vecvE (by first | rfl | simp)) (mod_cons (j := 5) rfl (fun _ _ h => h) mod_nil)) (.cons .here .nil))
   ·
    refine w_exit ?_
    refine exi_nxt ?_
    refine eL7 _ _ ?_
    refine exi_block ?_
    refine fin_nxt ?_
    refine w_seq ?_
    refine wsr ?_
    refine oV (v_assign rfl) ?_
    refine rnf ?_
    refine w_block ?_
    refine w_lp (ι := (List Int) × Int) (γ := Unit) (fun q448 g448 => [(6, isv (q448.2)), (4, vecv g6 (q448.1.length))]) (fun q448 g448 => [vecE g6 (q448.1 : List Int)]) h () (mod_cons (j := 6) rfl (fun _ _ h => h) (mod_cons (j := 4) rfl (vecvE (by first | rfl | simp)) mod_nil)) (.cons .here .nil) (fun L449 q448 g448 Q879 h hL449 eL449 rL449 => ?_)
    refine w_seq ?_
    refine wsr ?_
    refine oV (v_move rfl) ?_
    refine oV (v_move rfl) ?_
    refine oV (v_lss rfl rfl) ?_
    refine rnf ?_
    refine w_condM h rfl (fun _ h => ?_) (fun _ h => ?_)
    ·
     refine wkf ?_
     refine w_seq ?_
     refine w_block ?_
     refine wsr ?_
     refine oV (v_move rfl) ?_
     refine oV (v_move rfl) ?_
     refine cal_inv h fun y736 hy736 h => ?_
     refine oV (v_ix (l := a_turns) rfl (fun _ _ h => h) rfl sl23 hy736) ?_
     refine oV (v_loadI ty3 rfl) ?_
     refine oV (v_toU Tryd.underlying3 Tryd.underlying39 rfl) ?_
     refine oV (v_move rfl) ?_
     refine oV (v_toU Tryd.underlying3 Tryd.underlying39 rfl) ?_
     refine asr_inv h fun q737 h => ?_
     refine oV (v_rem64 rfl rfl q737) ?_
     refine ck_inv h fun q738 h => ?_
     refine oV (v_u64i Tryd.underlying39 Tryd.underlying3 rfl q738) ?_
     refine oV (v_assign rfl) ?_
     refine rnf ?_
     refine w_regionD (.v 0 (.v 1 (.v 2 (.v 3 (.v 4 (.v 5 (.v 6 (.v 8 (.v 9 (.v 10 (.alt 7 (.t 11 (.v 12 (.t 13 (.v 14 (.t 15 .nil))))) (.t 11 (.t 7 (.v 12 (.t 13 (.v 14 (.t 15 .nil))))))))))))))))) moOrd (by kernel_rfl) ?_
     refine rd_v rfl (v_move rfl) ?_
     refine rd_v rfl (v_move rfl) ?_
     refine rd_v rfl (v_move rfl) ?_
     refine rd_v rfl (v_move rfl) ?_
     refine rd_v rfl (v_move rfl) ?_
     refine rd_v rfl (v_move rfl) ?_
     refine asd_inv h fun q739 h => ?_
     refine rd_v rfl (v_vidx (α := Int) sl23 rfl rfl q739.1 q739.2) ?_
     refine rd_v rfl (v_move rfl) ?_
     refine rd_v rfl (v_move rfl) ?_
     refine asd_inv h fun q740 h => ?_
     refine rd_v rfl (v_vidx (α := Int) sl23 rfl rfl q740.1 q740.2) ?_
     refine cal_inv h fun y741 hy741 h => ?_
     refine cal_inv h fun y742 hy742 h => ?_
     refine asd_inv h fun q743 h => ?_
     refine cal_inv h fun y744 hy744 h => ?_
     refine asd_inv h fun q745 h => ?_
     refine cal_inv h fun y746 hy746 h => ?_
     refine ck_inv h fun q747 h => ?_
     refine rd_two ?_ ?_
     ·
      refine rd_t rfl rfl (t_vload ty3 rfl .here hy741 ?_)
      refine rd_t rfl rfl (t_vload ty3 rfl .here hy742 ?_)
      refine rd_v rfl (v_vidx (α := Int) sl23 rfl rfl q743.1 q743.2) ?_
      refine rd_t rfl rfl (t_vstore ty3 rfl rfl .here hy744 ?_)
      refine rd_v rfl (v_vidx (α := Int) sl23 rfl rfl q745.1 q745.2) ?_
      refine rd_t rfl rfl (t_vstore ty3 rfl rfl .here hy746 ?_)
      refine rd_nil ?_
      refine fin_block ?_
      refine fin_nxt ?_
      refine w_region ?_
      refine oV (v_move rfl) ?_
      refine oV (v_add rfl rfl q747) ?_
      refine oV (v_assign rfl) ?_
      refine rl_nil ?_
      exact hL449 _ () h _ (join_imp 32 rfl rfl (mod_cons (j := 6) rfl (fun _ _ h => h) (mod_cons (j := 4) rfl (vecvE (by first | rfl | simp)) mod_nil)) (.cons .here .nil))
     ·
      refine rd_t rfl rfl (t_vload ty3 rfl .here hy742 ?_)
      refine rd_t rfl rfl (t_vload ty3 rfl .here hy741 ?_)
      refine rd_v rfl (v_vidx (α := Int) sl23 rfl rfl q743.1 q743.2) ?_
      refine rd_t rfl rfl (t_vstore ty3 rfl rfl .here hy744 ?_)
      refine rd_v rfl (v_vidx (α := Int) sl23 rfl rfl q745.1 q745.2) ?_
      refine rd_t rfl rfl (t_vstore ty3 rfl rfl .here hy746 ?_)
      refine rd_nil ?_
      refine fin_block ?_
      refine fin_nxt ?_
      refine w_region ?_
      refine oV (v_move rfl) ?_
      refine oV (v_add rfl rfl q747) ?_
      refine oV (v_assign rfl) ?_
      refine rl_nil ?_
      exact hL449 _ () h _ (join_imp 32 rfl rfl (mod_cons (j := 6) rfl (fun _ _ h => h) (mod_cons (j := 4) rfl (vecvE (by first | rfl | simp)) mod_nil)) (.cons .here .nil))
    ·
     refine w_exit ?_
     refine exi_nxt ?_
     refine eL449 _ _ ?_
     refine exi_block ?_
     refine fin_nxt ?_
     refine wsr ?_
     refine oV (v_assign rfl) ?_
     refine rnf ?_
     refine w_seq ?_
     refine wsr ?_
     refine oV (v_assign rfl) ?_
     refine rnf ?_
     refine w_block ?_
     refine w_lp (ι := Str × Int) (γ := Unit) (fun q748 g748 => [(8, isv (q748.1)), (9, isv (q748.2))]) (fun q748 g748 => []) h () (mod_cons (j := 8) rfl (fun _ _ h => h) (mod_cons (j := 9) rfl (fun _ _ h => h) mod_nil)) .nil (fun L749 q748 g748 Q878 h hL749 eL749 rL749 => ?_)
     refine w_seq ?_
     refine wsr ?_
     refine oV (v_move rfl) ?_
     refine oV (v_move rfl) ?_
     refine oV (v_lss rfl rfl) ?_
     refine rnf ?_
     refine w_condM h rfl (fun _ h => ?_) (fun _ h => ?_)
     ·
      refine wkf ?_
      refine w_seq ?_
      refine w_block ?_
      refine wsr ?_
      refine oV (v_assign rfl) ?_
      refine rnf ?_
      refine w_seq ?_
      refine wsr ?_
      refine oV (v_move rfl) ?_
      refine oV (v_move rfl) ?_
      refine asd_inv h fun q814 h => ?_
      refine oV (v_vidx (α := Int) sl23 rfl rfl q814.1 q814.2) ?_
      refine cal_inv h fun y815 hy815 h => ?_
      refine oT (t_vload ty3 rfl .here hy815 ?_)
      refine ck_inv h fun q816 h => ?_
      refine oV (v_add rfl rfl q816) ?_
      refine oV (v_move rfl) ?_
      refine oV (v_lss rfl rfl) ?_
      refine rnf ?_
      refine w_J (ι := Str) (γ := Unit) (fun q817 g817 => [(10, isv (q817))]) (fun q817 g817 => []) .nil h (fun q817 g817 h => ?_) (fun J818 h hJ818 => ?_)
      ·
       refine w_region ?_
       refine oV (v_move rfl) ?_
       refine asr_inv h fun q824 h => ?_
       refine oV (v_cat rfl rfl q824) ?_
       refine oV (v_move rfl) ?_
       refine oV (v_move rfl) ?_
       refine asd_inv h fun q825 h => ?_
       refine oV (v_vidx (α := Int) sl23 rfl rfl q825.1 q825.2) ?_
       refine cal_inv h fun y826 hy826 h => ?_
       refine oT (t_vload ty3 rfl .here hy826 ?_)
       refine oV (v_toU Tryd.underlying3 Tryd.underlying41 rfl) ?_
       refine cal_inv h fun y827 hy827 h => ?_
       refine oT (t_call (h_Digits_w fuel hy827) hT (.same rfl .nil) .nil (fun R H' hR => ?_))
       obtain ⟨rfl, rfl⟩ := hR
       refine asr_inv h fun q828 h => ?_
       refine oV (v_cat rfl rfl q828) ?_
       refine asr_inv h fun q829 h => ?_
       refine oV (v_cat rfl rfl q829) ?_
       refine oV (v_move rfl) ?_
       refine asr_inv h fun q830 h => ?_
       refine oV (v_cat rfl rfl q830) ?_
       refine oV (v_assign rfl) ?_
       refine rl_nil ?_
       refine fin_block ?_
       refine fin_nxt ?_
       refine w_region ?_
       refine oV (v_move rfl) ?_
       refine ck_inv h fun q831 h => ?_
       refine oV (v_add rfl rfl q831) ?_
       refine oV (v_assign rfl) ?_
       refine rl_nil ?_
       exact hL749 _ () h _ (join_imp 30 rfl rfl (mod_cons (j := 8) rfl (fun _ _ h => h) (mod_cons (j := 9) rfl (fun _ _ h => h) mod_nil)) (.cons .here .nil))
      ·
       refine w_condM h rfl (fun _ h => ?_) (fun _ h => ?_)
       ·
        refine w_region ?_
        refine oV (v_move rfl) ?_
        refine oV (v_move rfl) ?_
        refine asd_inv h fun q819 h => ?_
        refine oV (v_vidx (α := Int) sl23 rfl rfl q819.1 q819.2) ?_
        refine cal_inv h fun y820 hy820 h => ?_
        refine oT (t_vload ty3 rfl .here hy820 ?_)
        refine ck_inv h fun q821 h => ?_
        refine oV (v_add rfl rfl q821) ?_
        refine oV (v_toU Tryd.underlying3 Tryd.underlying41 rfl) ?_
        refine cal_inv h fun y822 hy822 h => ?_
        refine oT (t_call (h_Digits_w fuel hy822) hT (.same rfl .nil) .nil (fun R H' hR => ?_))
        obtain ⟨rfl, rfl⟩ := hR
        refine asr_inv h fun q823 h => ?_
        refine oV (v_cat rfl rfl q823) ?_
        refine oV (v_assign rfl) ?_
        refine rl_nil ?_
        exact hJ818 _ () h _ (join_imp 9 rfl rfl (mod_cons (j := 10) rfl (fun _ _ h => h) mod_nil) (.cons .here .nil))
       ·
        refine w_skip ?_
        exact hJ818 _ () h _ (join_imp 0 rfl rfl (mod_cons (j := 10) rfl (fun _ _ h => h) mod_nil) (.cons .here .nil))
     ·
      refine w_exit ?_
      refine exi_nxt ?_
      refine eL749 _ _ ?_
      refine exi_block ?_
      refine fin_nxt ?_
      refine wsr ?_
      refine oV (v_move rfl) ?_
      refine asr_inv h fun q832 h => ?_
      refine oV (v_cat rfl rfl q832) ?_
      refine asr_inv h fun q833 h => ?_
      refine oV (v_cat rfl rfl q833) ?_
      refine cal_inv h fun y834 hy834 h => ?_
      refine oT (t_call (r05_Parse_w hy834) hT (.same rfl .nil) .nil (fun R H' hR => ?_))
      obtain ⟨rfl, rfl⟩ := hR
      refine oV (v_move rfl) ?_
      refine oV (v_extract rfl rfl) ?_
      refine oV (v_extract rfl rfl) ?_
      refine oV (v_extract rfl rfl) ?_
      refine oT (t_alloc _ ze26 fun b835 => ?_)
      refine oT (t_storeC (y' := (y834.1 : GMod)) ty26 rfl rfl (fun _ _ h => h) .here rfl ?_)
      refine rl_upd (upd_imm 11 .here rfl) ?_
      refine oV (v_assign rfl) ?_
      refine oV (v_assign rfl) ?_
      refine rnf ?_
      refine wsr ?_
      refine oV (v_loadI ty26 rfl) ?_
      refine cal_inv h fun y836 hy836 h => ?_
      refine oT (t_call (refs_Order_w hy836) hT (.same rfl .nil) .nil (fun R H' hR => ?_))
      obtain ⟨rfl, rfl⟩ := hR
      refine oV (v_move rfl) ?_
      refine oV (v_extract rfl rfl) ?_
      refine oV (v_extract rfl rfl) ?_
      refine oV (v_extract rfl rfl) ?_
      refine oV (v_assign rfl) ?_
      refine oV (v_assign rfl) ?_
      refine oV (v_assign rfl) ?_
      refine rnf ?_
      refine w_seq ?_
      refine wsr ?_
      refine cal_inv h fun y837 hy837 h => ?_
      refine oT (t_call (law07_awake_w hy837) hT .nil .nil (fun R H' hR => ?_))
      obtain ⟨rfl, rfl⟩ := hR
      refine oV (v_not rfl) ?_
      refine oV (v_move rfl) ?_
      refine rl_j (ι := Bool) (γ := Unit) (fun q838 g838 => [(115, isv (q838))]) (fun q838 g838 => []) .nil h 3 rfl (fun q838 g838 h => ?_) (fun J839 h hJ839 => ?_)
      ·
       refine oV (v_move rfl) ?_
       refine rl_j (ι := Bool) (γ := Unit) (fun q841 g841 => [(119, isv (q841))]) (fun q841 g841 => []) .nil h 3 rfl (fun q841 g841 h => ?_) (fun J842 h hJ842 => ?_)
       ·
        refine oV (v_move rfl) ?_
        refine rl_j (ι := Bool) (γ := Unit) (fun q844 g844 => [(125, isv (q844))]) (fun q844 g844 => []) .nil h 5 rfl (fun q844 g844 h => ?_) (fun J845 h hJ845 => ?_)
        ·
         refine rnf ?_
         refine w_condM h rfl (fun _ h => ?_) (fun _ h => ?_)
         ·
          refine wsr ?_
          refine oV (v_assign rfl) ?_
          refine rnf ?_
          refine w_ret ?_
          refine ret_nxt ?_
          refine ret_post (.tmp rfl .nil) .nil ?_
          obtain rfl := Option.some.inj h
          exact ⟨rfl, rfl⟩
         ·
          refine wkf ?_
          refine w_seq ?_
          refine wsr ?_
          refine oV (v_assign rfl) ?_
          refine rnf ?_
          refine w_block ?_
          refine w_lp (ι := Int) (γ := Unit) (fun q847 g847 => [(17, isv (q847))]) (fun q847 g847 => []) h () (mod_cons (j := 17) rfl (fun _ _ h => h) mod_nil) .nil (fun L848 q847 g847 Q877 h hL848 eL848 rL848 => ?_)
          refine w_seq ?_
          refine wsr ?_
          refine oV (v_move rfl) ?_
          refine oV (v_move rfl) ?_
          refine oV (v_lss rfl rfl) ?_
          refine rnf ?_
          refine w_condM h rfl (fun _ h => ?_) (fun _ h => ?_)
          ·
           refine wkf ?_
           refine w_seq ?_
           refine w_block ?_
           refine wsr ?_
           refine oV (v_move rfl) ?_
           refine oV (v_move rfl) ?_
           refine cal_inv h fun y863 hy863 h => ?_
           refine oV (v_ix (l := y836.1) rfl (fun _ _ h => h) rfl sl23 hy863) ?_
           refine oV (v_loadI ty3 rfl) ?_
           refine oV (v_lss rfl rfl) ?_
           refine oV (v_move rfl) ?_
           refine rl_j (ι := Bool) (γ := Unit) (fun q864 g864 => [(143, isv (q864))]) (fun q864 g864 => []) .nil h 7 rfl (fun q864 g864 h => ?_) (fun J865 h hJ865 => ?_)
           ·
            refine oV (v_move rfl) ?_
            refine rl_j (ι := Bool) (γ := Unit) (fun q868 g868 => [(157, isv (q868))]) (fun q868 g868 => []) .nil h 13 rfl (fun q868 g868 h => ?_) (fun J869 h hJ869 => ?_)
            ·
             refine rnf ?_
             refine w_condM h rfl (fun _ h => ?_) (fun _ h => ?_)
             ·
              refine wsr ?_
              refine oV (v_assign rfl) ?_
              refine rnf ?_
              refine w_ret ?_
              refine ret_block ?_
              refine ret_nxt ?_
              refine rL848 _ ?_
              refine ret_block ?_
              refine ret_nxt ?_
              refine ret_post (.tmp rfl .nil) .nil ?_
              obtain rfl := Option.some.inj h
              exact ⟨rfl, rfl⟩
             ·
              refine w_skip ?_
              refine fin_block ?_
              refine fin_nxt ?_
              refine w_region ?_
              refine oV (v_move rfl) ?_
              refine ck_inv h fun q876 h => ?_
              refine oV (v_add rfl rfl q876) ?_
              refine oV (v_assign rfl) ?_
              refine rl_nil ?_
              exact hL848 _ () h _ (join_imp 16 rfl rfl (mod_cons (j := 17) rfl (fun _ _ h => h) mod_nil) (.cons .here .nil))
            ·
             refine rl_condM (j := 144) h rfl (fun g870 h => ?_) (fun g870 h => ?_)
             ·
              refine op_pass rfl (dj := 144) rfl g870 ?_
              refine op_pass rfl (dj := 144) rfl g870 ?_
              refine op_pass rfl (dj := 144) rfl g870 ?_
              refine op_pass rfl (dj := 144) rfl g870 ?_
              refine op_pass rfl (dj := 144) rfl g870 ?_
              refine op_pass rfl (dj := 144) rfl g870 ?_
              refine op_pass rfl (dj := 144) rfl g870 ?_
              refine op_pass rfl (dj := 144) rfl g870 ?_
              refine op_pass rfl (dj := 144) rfl g870 ?_
              refine op_pass rfl (dj := 144) rfl g870 ?_
              refine op_pass rfl (dj := 144) rfl g870 ?_
              refine op_pass rfl (dj := 144) rfl g870 ?_
              refine oV (v_pick_t rfl g870 rfl) ?_
              exact hJ869 _ () h _ (join_imp 13 rfl rfl (mod_cons (j := 157) rfl (fun _ _ h => h) mod_nil) (.cons .here .nil))
             ·
              refine op_take rfl rfl (dj := 144) rfl g870 (OpV.t (v_move rfl) ?_)
              refine op_take rfl rfl (dj := 144) rfl g870 (OpV.t (v_move rfl) ?_)
              refine op_take rfl rfl (dj := 144) rfl g870 (OpV.t (v_move rfl) ?_)
              refine cal_inv h fun y871 hy871 h => ?_
              refine op_take rfl rfl (dj := 144) rfl g870 (OpV.t (v_ix (l := y836.1) rfl (fun _ _ h => h) rfl sl23 hy871) ?_)
              refine op_take rfl rfl (dj := 144) rfl g870 (OpV.t (v_loadI ty3 rfl) ?_)
              refine asd_inv h fun q872 h => ?_
              refine op_take rfl rfl (dj := 144) rfl g870 (OpV.t (v_vidx (α := Int) sl23 rfl rfl q872.1 q872.2) ?_)
              refine cal_inv h fun y873 hy873 h => ?_
              refine op_take rfl rfl (dj := 144) rfl g870 (t_vload ty3 rfl .here hy873 ?_)
              refine op_take rfl rfl (dj := 144) rfl g870 (OpV.t (v_move rfl) ?_)
              refine ck_inv h fun q874 h => ?_
              refine op_take rfl rfl (dj := 144) rfl g870 (OpV.t (v_sub rfl rfl q874) ?_)
              refine op_take rfl rfl (dj := 144) rfl g870 (OpV.t (v_move rfl) ?_)
              refine ck_inv h fun q875 h => ?_
              refine op_take rfl rfl (dj := 144) rfl g870 (OpV.t (v_sub rfl rfl q875) ?_)
              refine op_take rfl rfl (dj := 144) rfl g870 (OpV.t (v_neq rfl rfl) ?_)
              refine oV (v_pick_f rfl g870 rfl) ?_
              exact hJ869 _ () h _ (join_imp 13 rfl rfl (mod_cons (j := 157) rfl (fun _ _ h => h) mod_nil) (.cons .here .nil))
           ·
            refine rl_condM (j := 136) h rfl (fun g866 h => ?_) (fun g866 h => ?_)
            ·
             refine op_pass rfl (dj := 136) rfl g866 ?_
             refine op_pass rfl (dj := 136) rfl g866 ?_
             refine op_pass rfl (dj := 136) rfl g866 ?_
             refine op_pass rfl (dj := 136) rfl g866 ?_
             refine op_pass rfl (dj := 136) rfl g866 ?_
             refine op_pass rfl (dj := 136) rfl g866 ?_
             refine oV (v_pick_t rfl g866 rfl) ?_
             exact hJ865 _ () h _ (join_imp 7 rfl rfl (mod_cons (j := 143) rfl (fun _ _ h => h) mod_nil) (.cons .here .nil))
            ·
             refine op_take rfl rfl (dj := 136) rfl g866 (OpV.t (v_move rfl) ?_)
             refine op_take rfl rfl (dj := 136) rfl g866 (OpV.t (v_move rfl) ?_)
             refine cal_inv h fun y867 hy867 h => ?_
             refine op_take rfl rfl (dj := 136) rfl g866 (OpV.t (v_ix (l := y836.1) rfl (fun _ _ h => h) rfl sl23 hy867) ?_)
             refine op_take rfl rfl (dj := 136) rfl g866 (OpV.t (v_loadI ty3 rfl) ?_)
             refine op_take rfl rfl (dj := 136) rfl g866 (OpV.t (v_move rfl) ?_)
             refine op_take rfl rfl (dj := 136) rfl g866 (OpV.t (v_geq rfl rfl) ?_)
             refine oV (v_pick_f rfl g866 rfl) ?_
             exact hJ865 _ () h _ (join_imp 7 rfl rfl (mod_cons (j := 143) rfl (fun _ _ h => h) mod_nil) (.cons .here .nil))
          ·
           refine w_exit ?_
           refine exi_nxt ?_
           refine eL848 _ _ ?_
           refine exi_block ?_
           refine fin_nxt ?_
           refine wsr ?_
           refine oV (v_assign rfl) ?_
           refine rnf ?_
           refine w_ret ?_
           refine ret_post (.tmp rfl .nil) .nil ?_
           obtain rfl := Option.some.inj h
           exact ⟨rfl, rfl⟩
        ·
         refine rl_condM (j := 120) h rfl (fun g846 h => ?_) (fun g846 h => ?_)
         ·
          refine op_pass rfl (dj := 120) rfl g846 ?_
          refine op_pass rfl (dj := 120) rfl g846 ?_
          refine op_pass rfl (dj := 120) rfl g846 ?_
          refine op_pass rfl (dj := 120) rfl g846 ?_
          refine oV (v_pick_t rfl g846 rfl) ?_
          exact hJ845 _ () h _ (join_imp 5 rfl rfl (mod_cons (j := 125) rfl (fun _ _ h => h) mod_nil) (.cons .here .nil))
         ·
          refine op_take rfl rfl (dj := 120) rfl g846 (OpV.t (v_move rfl) ?_)
          refine op_take rfl rfl (dj := 120) rfl g846 (OpV.t (v_ln (l := y836.1) rfl (fun _ _ h => h) sl23) ?_)
          refine op_take rfl rfl (dj := 120) rfl g846 (OpV.t (v_move rfl) ?_)
          refine op_take rfl rfl (dj := 120) rfl g846 (OpV.t (v_neq rfl rfl) ?_)
          refine oV (v_pick_f rfl g846 rfl) ?_
          exact hJ845 _ () h _ (join_imp 5 rfl rfl (mod_cons (j := 125) rfl (fun _ _ h => h) mod_nil) (.cons .here .nil))
       ·
        refine rl_condM (j := 116) h rfl (fun g843 h => ?_) (fun g843 h => ?_)
        ·
         refine op_pass rfl (dj := 116) rfl g843 ?_
         refine op_pass rfl (dj := 116) rfl g843 ?_
         refine oV (v_pick_t rfl g843 rfl) ?_
         exact hJ842 _ () h _ (join_imp 3 rfl rfl (mod_cons (j := 119) rfl (fun _ _ h => h) mod_nil) (.cons .here .nil))
        ·
         refine op_take rfl rfl (dj := 116) rfl g843 (OpV.t (v_move rfl) ?_)
         refine op_take rfl rfl (dj := 116) rfl g843 (OpV.t (v_neq rfl rfl) ?_)
         refine oV (v_pick_f rfl g843 rfl) ?_
         exact hJ842 _ () h _ (join_imp 3 rfl rfl (mod_cons (j := 119) rfl (fun _ _ h => h) mod_nil) (.cons .here .nil))
      ·
       refine rl_condM (j := 112) h rfl (fun g840 h => ?_) (fun g840 h => ?_)
       ·
        refine op_pass rfl (dj := 112) rfl g840 ?_
        refine op_pass rfl (dj := 112) rfl g840 ?_
        refine oV (v_pick_t rfl g840 rfl) ?_
        exact hJ839 _ () h _ (join_imp 3 rfl rfl (mod_cons (j := 115) rfl (fun _ _ h => h) mod_nil) (.cons .here .nil))
       ·
        refine op_take rfl rfl (dj := 112) rfl g840 (OpV.t (v_move rfl) ?_)
        refine op_take rfl rfl (dj := 112) rfl g840 (OpV.t (v_neq rfl rfl) ?_)
        refine oV (v_pick_f rfl g840 rfl) ?_
        exact hJ839 _ () h _ (join_imp 3 rfl rfl (mod_cons (j := 115) rfl (fun _ _ h => h) mod_nil) (.cons .here .nil))
 ·
  refine rl_condM (j := 22) h rfl (fun g3 h => ?_) (fun g3 h => ?_)
  ·
   refine op_pass rfl (dj := 22) rfl g3 ?_
   refine op_pass rfl (dj := 22) rfl g3 ?_
   refine oV (v_pick_t rfl g3 rfl) ?_
   exact hJ2 _ () h _ (join_imp 3 rfl rfl (mod_cons (j := 25) rfl (fun _ _ h => h) mod_nil) .nil)
  ·
   refine op_take rfl rfl (dj := 22) rfl g3 (OpV.t (v_move rfl) ?_)
   refine op_take rfl rfl (dj := 22) rfl g3 (OpV.t (v_gtr rfl rfl) ?_)
   refine oV (v_pick_f rfl g3 rfl) ?_
   exact hJ2 _ () h _ (join_imp 3 rfl rfl (mod_cons (j := 25) rfl (fun _ _ h => h) mod_nil) .nil)

end Go.Proofs.YtdcdndflfhaejaaDoor


namespace Go.Sy
section tot
variable {α β ι : Type}
/-- It answers, and so. -/
def T (R : β → Prop) (o : Option β) : Prop := ∃ r, o = some r ∧ R r
theorem T.some {R : β → Prop} {r : β} (h : R r) : T R (some r) := ⟨r, rfl, h⟩
theorem T.mono {R R' : β → Prop} {o : Option β} (h : T R o) (k : ∀ r, R r → R' r) : T R' o := by
  obtain ⟨r, h1, h2⟩ := h; exact ⟨r, h1, k r h2⟩
theorem T.cal {Q : α → Prop} {R : β → Prop} {m : Option α} {k : α → Option β} (h : T Q m) (hk : ∀ y, m = Option.some y → Q y → T R (k y)) : T R (cal m k) := by
  obtain ⟨y, h1, h2⟩ := h
  subst h1
  exact hk y rfl h2
theorem T.eq {R : β → Prop} {m : Option α} {k : α → Option β} {y : α} (h : m = Option.some y) (hk : T R (k y)) : T R (Sy.cal m k) := by subst h; exact hk
theorem bI64_of {x : Int} (h : inI64 x) : bI64 x = true := by
  unfold inI64 at h
  cases x with
  | ofNat n =>
    simp only [Int.ofNat_eq_natCast] at h
    exact Nat.ble_eq_true_of_le (by omega)
  | negSucc n => exact Nat.ble_eq_true_of_le (by omega)
theorem T.ck {R : β → Prop} {x : Int} {k : Option β} (hx : -9223372036854775808 ≤ x ∧ x ≤ 9223372036854775807) (h : T R k) : T R (ck x k) := by
  unfold Sy.ck; rw [bI64_of hx]; exact h
theorem T.asr {R : β → Prop} {b : Bool} {k : Option β} (hb : b = true) (h : T R k) : T R (asr b k) := by subst hb; exact h
theorem T.asd {R : β → Prop} {p : Prop} [Decidable p] {k : Option β} (hb : p) (h : T R k) : T R (Sy.asr (decide p) k) := T.asr (decide_eq_true hb) h
theorem T.abl {R : β → Prop} {a b : Nat} {k : Option β} (hb : a ≤ b) (h : T R k) : T R (Sy.asr (Nat.ble a b) k) := T.asr (Nat.ble_eq_true_of_le hb) h
theorem T.br {R : β → Prop} {b : Bool} {t e : Option β} (ht : b = true → T R t) (he : b = false → T R e) : T R (br b t e) := by
  cases b with
  | true => exact ht rfl
  | false => exact he rfl
theorem T.jp (Q : ι → Prop) {R : β → Prop} {B : (ι → Option β) → Option β} {K : ι → Option β} (hB : ∀ J, (∀ i, Q i → T R (J i)) → T R (B J)) (hK : ∀ i, Q i → T R (K i)) : T R (jp B K) := hB K hK
/-- Where the ways are few: as it stands. -/
theorem T.jp0 {R : β → Prop} {B : (ι → Option β) → Option β} {K : ι → Option β} (h : T R (B K)) : T R (Sy.jp B K) := h
theorem T.lp (I : ι → Prop) (μ : ι → Nat) {R : β → Prop} {F : (ι → Option β) → ι → Option β} {i0 : ι} (h0 : I i0) (hμ : μ i0 < 1000000000000000000) (h : ∀ (L : ι → Option β) i, I i → (∀ j, I j → μ j < μ i → T R (L j)) → T R (F L i)) : T R (lp F i0) := by
  have key : ∀ n i, I i → μ i < n → T R (lpN F n i) := by
    intro n
    induction n with
    | zero => intro i _ hn; omega
    | succ n ih => intro i hi hn; exact h (lpN F n) i hi fun j hj hl => ih j hj (by omega)
  unfold Sy.lp fuel
  exact key _ _ h0 hμ
theorem getI_some {l : List α} {i : Int} (h0 : 0 ≤ i) (h1 : i < l.length) : getI l i = some (l[i.toNat]'(by omega)) := by
  unfold getI
  cases i with
  | ofNat n => simp only [Int.ofNat_eq_natCast] at h1; simp
  | negSucc n => omega
theorem T.get {R : β → Prop} {l : List α} {i : Int} {k : α → Option β} (h0 : 0 ≤ i) (h1 : i < l.length) (hk : ∀ y, l[i.toNat]? = Option.some y → T R (k y)) : T R (Sy.cal (getI l i) k) :=
  T.eq (getI_some h0 h1) (hk _ (List.getElem?_eq_getElem (by omega)))
theorem T.iff {R : β → Prop} {o : Option β} {x : β} (h : T (fun r => r = x) o) : o = Option.some x := by
  obtain ⟨r, h1, h2⟩ := h; rw [h1, h2]
theorem T.of {o : Option β} {R : β → Prop} {x : β} (h : o = Option.some x) (hx : R x) : T R o := ⟨x, h, hx⟩
theorem T.get? {o : Option β} {R : β → Prop} (h : T R o) {r : β} (e : o = Option.some r) : R r := by
  obtain ⟨r', h1, h2⟩ := h; rw [h1] at e; cases e; exact h2
end tot
end Go.Sy


namespace Go.Proofs.YtdcdndflfhaejaaDoor
open Go.Sy
set_option linter.unusedVariables false

theorem at_tot (s : Str) (i : Int) : T (fun r => r = (if 0 ≤ i then (s.b[i.toNat]?).getD 0 else 0)) (r04_at s i) := by
  unfold r04_at
  refine T.jp (fun q => q = decide (¬ (0 ≤ i ∧ i < s.b.length))) (fun J h => ?_) (fun q hq => ?_)
  · refine T.br (fun h1 => h _ ?_) (fun h1 => h _ ?_)
    · have := of_decide_eq_true h1; simp; omega
    · have := of_decide_eq_false h1
      by_cases h2 : (s.b.length : Int) ≤ i <;> simp [h2] <;> omega
  · subst hq
    refine T.br (fun h1 => T.some ?_) (fun h1 => ?_)
    · have h2 := of_decide_eq_true h1
      split
      · rename_i h3
        rw [List.getElem?_eq_none (by omega)]; rfl
      · rfl
    · have h2 := of_decide_eq_false h1
      refine T.get (by omega) (by omega) fun y hy => T.some ?_
      rw [if_pos (by omega), hy]; rfl

def isLetter (c : UInt8) : Bool := (decide (97 ≤ c) && decide (c ≤ 122)) || (decide (65 ≤ c) && decide (c ≤ 90))
def isDigit (c : UInt8) : Bool := decide (48 ≤ c) && decide (c ≤ 57)
theorem letter_eq (c : UInt8) : r04_letter c = some (isLetter c) := by
  unfold r04_letter isLetter jp br
  cases decide (97 ≤ c) <;> cases decide (c ≤ 122) <;> cases decide (65 ≤ c) <;> cases decide (c ≤ 90) <;> rfl
theorem digit_eq (c : UInt8) : r04_digit c = some (isDigit c) := by
  unfold r04_digit isDigit jp br
  cases decide (48 ≤ c) <;> cases decide (c ≤ 57) <;> rfl

theorem white_tot (s : Str) (i : Int) (h0 : 0 ≤ i) (h1 : i ≤ s.b.length) (hl : s.b.length ≤ 1000000) : T (fun r => i ≤ r ∧ r ≤ s.b.length) (r04_white s i) := by
  unfold r04_white
  refine T.lp (fun k => i ≤ k ∧ k ≤ s.b.length) (fun k => (s.b.length - k).toNat) ⟨Int.le_refl _, h1⟩ (by omega) fun L k hk hL => ?_
  refine T.br (fun hb => ?_) (fun _ => T.some hk)
  have hb := of_decide_eq_true hb
  refine T.get (by omega) hb fun y hy => ?_
  refine T.jp (fun _ => True) (fun J h => T.br (fun _ => h _ trivial) fun _ => T.get (by omega) hb fun _ _ => h _ trivial) fun q _ => ?_
  refine T.jp (fun _ => True) (fun J h => T.br (fun _ => h _ trivial) fun _ => T.get (by omega) hb fun _ _ => h _ trivial) fun q _ => ?_
  refine T.jp (fun _ => True) (fun J h => T.br (fun _ => h _ trivial) fun _ => T.get (by omega) hb fun _ _ => h _ trivial) fun q _ => ?_
  refine T.br (fun _ => T.ck (by omega) (hL _ (by omega) (by omega))) fun _ => ?_
  refine T.get (by omega) hb fun y hy => ?_
  refine T.jp (fun q => q = true → k + 2 ≤ s.b.length) (fun J h => T.br (fun _ => T.ck (by omega) (T.cal (at_tot s (k + 1)) fun y _ hy => h _ fun hq => ?_)) fun _ => h _ (fun h => by cases h)) fun q hq => ?_
  · have := of_decide_eq_true hq
    subst this
    rw [if_pos (by omega)] at hy
    rcases Nat.lt_or_ge (k + 1).toNat s.b.length with h3 | h3
    · omega
    · rw [List.getElem?_eq_none h3] at hy; cases hy
  refine T.br (fun hb2 => T.ck (by omega) ?_) (fun _ => T.some hk)
  have hq' := hq hb2
  refine T.lp (fun j => k + 2 ≤ j ∧ j ≤ s.b.length) (fun j => (s.b.length - j).toNat) ⟨Int.le_refl _, hq'⟩ (by omega) fun L2 j hj hL2 => ?_
  refine T.jp (fun q => q = true → j < s.b.length) (fun J h => T.br (fun h2 => ?_) fun _ => h _ (fun h => by cases h)) fun q hq2 => ?_
  · have h2 := of_decide_eq_true h2
    exact T.get (by omega) h2 fun _ _ => h _ fun _ => h2
  refine T.br (fun h2 => ?_) (fun _ => hL _ (by omega) (by omega))
  have h2 := hq2 h2
  refine T.get (by omega) h2 fun y hy => ?_
  refine T.jp (fun q => q = true → j + 2 ≤ s.b.length) (fun J h => T.br (fun _ => T.ck (by omega) (T.cal (at_tot s (j + 1)) fun y _ hy => h _ fun hq => ?_)) fun _ => h _ (fun h => by cases h)) fun q hq3 => ?_
  · have := of_decide_eq_true hq
    subst this
    rw [if_pos (by omega)] at hy
    rcases Nat.lt_or_ge (j + 1).toNat s.b.length with h3 | h3
    · omega
    · rw [List.getElem?_eq_none h3] at hy; cases hy
  refine T.br (fun h3 => T.ck (by omega) ?_) (fun _ => T.ck (by omega) (hL2 _ (by omega) (by omega)))
  have h3 := hq3 h3
  exact hL _ (by omega) (by omega)

theorem name_tot (s : Str) (i : Int) (h0 : 0 ≤ i) (h1 : i < s.b.length) (hl : s.b.length ≤ 1000000) (hc : ∀ y, s.b[i.toNat]? = some y → isLetter y = true) : T (fun r => r = -1 ∨ (i < r ∧ r ≤ s.b.length)) (r04_name s i) := by
  unfold r04_name
  refine T.lp (fun k => i ≤ k ∧ k ≤ s.b.length) (fun k => (s.b.length - k).toNat) ⟨Int.le_refl _, by omega⟩ (by omega) fun L k hk hL => ?_
  refine T.jp (fun q => (q = true → k < s.b.length) ∧ (q = false → i < k)) (fun J h => ?_) fun q hq => ?_
  · refine T.br (fun hb => ?_) (fun hb => h _ ⟨(fun h => by cases h), fun _ => by have := of_decide_eq_false hb; omega⟩)
    have hb := of_decide_eq_true hb
    refine T.get (by omega) hb fun y hy => ?_
    refine T.eq (letter_eq y) ?_
    refine T.jp (fun q => isLetter y = true → q = true) (fun J2 h2 => ?_) fun q hq => ?_
    · exact T.br (fun _ => h2 _ fun _ => rfl) fun hn => T.get (by omega) hb fun y2 _ => T.eq (digit_eq y2) (h2 _ fun hy => by rw [hn] at hy; cases hy)
    refine T.jp (fun q => isLetter y = true → q = true) (fun J2 h2 => ?_) fun q hq => ?_
    · refine T.br (fun _ => h2 _ fun _ => rfl) fun hn => T.get (by omega) hb fun y2 _ => ?_
      have hno : ¬ isLetter y = true := fun hy => by rw [hq hy] at hn; cases hn
      refine T.jp (fun _ => True) (fun J3 h3 => T.br (fun _ => T.ck (by omega) (T.cal (at_tot s _) fun _ _ _ => h3 _ trivial)) fun _ => h3 _ trivial) fun q _ => h2 _ fun hy => absurd hy hno
    · refine h _ ⟨fun _ => hb, fun hn => ?_⟩
      rcases Int.lt_or_eq_of_le hk.1 with h2 | h2
      · exact h2
      · subst h2
        have := hq (hc y hy)
        rw [this] at hn; cases hn
  refine T.br (fun hb => T.ck (by have := hq.1 hb; omega) (hL _ (by have := hq.1 hb; omega) (by have := hq.1 hb; omega))) fun hb => ?_
  have hlt := hq.2 hb
  refine T.ck (by omega) (T.get (by omega) (by omega) fun y _ => ?_)
  refine T.jp (fun _ => True) (fun J h => T.br (fun _ => h _ trivial) fun _ => T.ck (by omega) (h _ trivial)) fun q _ => ?_
  exact T.br (fun _ => T.some (.inl rfl)) fun _ => T.some (.inr ⟨hlt, hk.2⟩)
end Go.Proofs.YtdcdndflfhaejaaDoor


namespace Go.Proofs.YtdcdndflfhaejaaDoor
open Go.Sy
set_option linter.unusedVariables false

theorem snocInd {α : Type} {P : List α → Prop} (h0 : P []) (h1 : ∀ l a, P l → P (l ++ [a])) (l : List α) : P l := by
  have : ∀ m : List α, P m.reverse := by
    intro m
    induction m with
    | nil => exact h0
    | cons a m ih => rw [List.reverse_cons]; exact h1 _ _ ih
  have h := this l.reverse
  rwa [List.reverse_reverse] at h

/-- What digits say. -/
def dval (l : List UInt8) : Nat := l.foldl (fun v d => 10 * v + (d.toNat - 48)) 0
def uval (l : List UInt8) : UInt64 := l.foldl (fun v d => 10 * v + (d - 48).toUInt64) 0
theorem digit_range {d : UInt8} (h : isDigit d = true) : 48 ≤ d.toNat ∧ d.toNat ≤ 57 := by
  unfold isDigit at h
  simp only [Bool.and_eq_true, decide_eq_true_eq] at h
  have h1 := UInt8.le_iff_toNat_le.1 h.1
  have h2 := UInt8.le_iff_toNat_le.1 h.2
  simp at h1 h2
  omega
theorem digit_u {d : UInt8} (h : isDigit d = true) : (d - 48).toUInt64.toNat = d.toNat - 48 := by
  have h1 := digit_range h
  have h2 := d.toNat_lt
  have h3 : (48 : UInt8).toNat = 48 := rfl
  rw [UInt8.toNat_toUInt64, UInt8.toNat_sub, h3]
  omega
theorem dval_snoc (l : List UInt8) (d : UInt8) : dval (l ++ [d]) = 10 * dval l + (d.toNat - 48) := by simp [dval]
theorem uval_snoc (l : List UInt8) (d : UInt8) : uval (l ++ [d]) = 10 * uval l + (d - 48).toUInt64 := by simp [uval]
def digs (l : List UInt8) : Prop := ∀ d ∈ l, isDigit d = true
theorem digs_snoc {l : List UInt8} {d : UInt8} (h : digs (l ++ [d])) : digs l ∧ isDigit d = true :=
  ⟨fun x hx => h x (List.mem_append_left _ hx), h d (List.mem_append_right _ (List.mem_singleton.2 rfl))⟩
theorem dval_lt (l : List UInt8) : digs l → dval l < 10 ^ l.length := by
  refine snocInd (P := fun l => digs l → dval l < 10 ^ l.length) (fun _ => by simp [dval]) (fun l d ih h => ?_) l
  obtain ⟨h1, h2⟩ := digs_snoc h
  have h3 := ih h1
  have h4 := digit_range h2
  rw [dval_snoc, List.length_append, List.length_singleton, Nat.pow_succ]
  omega
theorem pow19 {n : Nat} (h : n ≤ 19) : 10 ^ n ≤ 10000000000000000000 := by
  have := Nat.pow_le_pow_right (show 0 < 10 by omega) h
  simpa using this
theorem uval_dval (l : List UInt8) : digs l → l.length ≤ 19 → (uval l).toNat = dval l := by
  refine snocInd (P := fun l => digs l → l.length ≤ 19 → (uval l).toNat = dval l) (fun _ _ => by simp [dval, uval]) (fun l d ih h hl => ?_) l
  obtain ⟨h1, h2⟩ := digs_snoc h
  rw [List.length_append, List.length_singleton] at hl
  have h3 := ih h1 (by omega)
  have h4 := digit_range h2
  have h5 := dval_lt (l ++ [d]) h
  rw [List.length_append, List.length_singleton] at h5
  have h6 := pow19 hl
  rw [dval_snoc] at h5
  rw [uval_snoc, dval_snoc, UInt64.toNat_add, UInt64.toNat_mul, h3, digit_u h2]
  have h7 : (10 : UInt64).toNat = 10 := rfl
  rw [h7]
  omega
theorem dval_pos {d : UInt8} {l : List UInt8} (h : digs (d :: l)) (hd : d ≠ 48) : 1 ≤ dval (d :: l) := by
  refine snocInd (P := fun l => digs (d :: l) → 1 ≤ dval (d :: l)) (fun h => ?_) (fun l e ih h => ?_) l h
  · have h1 := digit_range (h d (List.mem_singleton.2 rfl))
    have h2 : d.toNat ≠ 48 := fun e => hd (UInt8.toNat_inj.1 e)
    have e : dval [d] = d.toNat - 48 := by simp [dval]
    omega
  · have h2 := ih (digs_snoc (l := d :: l) h).1
    have e1 := dval_snoc (d :: l) e
    have e2 : d :: (l ++ [e]) = d :: l ++ [e] := rfl
    rw [e2, e1]; omega

/-- A number of 64 bits, as it is written. -/
def NumOk (b : List UInt8) : Prop := ∃ ds, digs ds ∧ ds ≠ [] ∧ ds.length ≤ 19 ∧ ((b = ds ∧ dval ds < 9223372036854775808) ∨ (b = 45 :: ds ∧ 1 ≤ dval ds ∧ dval ds ≤ 9223372036854775808))

theorem seg_snoc {l : List UInt8} {f k : Nat} {y : UInt8} (hf : f ≤ k) (hy : l[k]? = some y) : (l.take (k + 1)).drop f = (l.take k).drop f ++ [y] := by
  have hlt := (List.getElem?_eq_some_iff.1 hy).1
  have h1 : l.take (k + 1) = l.take k ++ [y] := by
    rw [List.take_add_one, hy]; rfl
  rw [h1, List.drop_append_of_le_length (by rw [List.length_take]; omega)]
theorem seg_cons {l : List UInt8} {f k : Nat} {y : UInt8} (hf : f < k) (hk : k ≤ l.length) (hy : l[f]? = some y) : (l.take k).drop f = y :: (l.take k).drop (f + 1) := by
  have h1 : (l.take k)[f]? = some y := by rw [List.getElem?_take, if_pos hf, hy]
  obtain ⟨h2, h3⟩ := List.getElem?_eq_some_iff.1 h1
  rw [List.drop_eq_getElem_cons h2, h3]
theorem seg_len {l : List UInt8} {f k : Nat} (hk : k ≤ l.length) : ((l.take k).drop f).length = k - f := by
  rw [List.length_drop, List.length_take]; omega

set_option maxHeartbeats 1000000 in
theorem number_tot (s : Str) (i : Int) (h0 : 0 ≤ i) (h1 : i < s.b.length) (hl : s.b.length ≤ 1000000) :
    T (fun r => r = -1 ∨ (i < r ∧ r ≤ s.b.length ∧ NumOk ((s.b.take r.toNat).drop i.toNat))) (r04_number s i) := by
  unfold r04_number
  refine T.get h0 h1 fun y1 hy1 => ?_
  refine T.jp (fun f => (y1 = 45 ∧ f = i + 1) ∨ (y1 ≠ 45 ∧ f = i)) (fun J h => T.br (fun hb => T.ck (by omega) (h _ (.inl ⟨of_decide_eq_true hb, rfl⟩))) fun hb => h _ (.inr ⟨of_decide_eq_false hb, rfl⟩)) fun f hf => ?_
  have hf0 : i ≤ f ∧ f ≤ i + 1 := by omega
  have hfl : f ≤ s.b.length := by omega
  refine T.lp (ι := Int × UInt64) (fun q => f ≤ q.1 ∧ q.1 ≤ s.b.length ∧ digs ((s.b.take q.1.toNat).drop f.toNat) ∧ (q.1 - f ≤ 19 → q.2 = uval ((s.b.take q.1.toNat).drop f.toNat))) (fun q => (s.b.length - q.1).toNat)
    (by
      have e : (s.b.take f.toNat).drop f.toNat = [] := List.drop_eq_nil_of_le (by rw [List.length_take]; omega)
      refine ⟨Int.le_refl _, hfl, ?_, ?_⟩
      · rw [e]; intro d hd; cases hd
      · intro _; rw [e]; rfl) (by simp only; omega) fun L q hq hL => ?_
  obtain ⟨k, v⟩ := q
  obtain ⟨hq1, hq2, hq3, hq4⟩ := hq
  simp only at hq1 hq2 hq3 hq4 ⊢
  refine T.jp (fun b => b = true → k < s.b.length ∧ ∀ y, s.b[k.toNat]? = some y → isDigit y = true) (fun J h => ?_) fun b hb => ?_
  · refine T.br (fun h2 => ?_) fun _ => h _ (fun h => by cases h)
    have h2 := of_decide_eq_true h2
    exact T.get (by omega) h2 fun y hy => T.eq (digit_eq y) (h _ fun hd => ⟨h2, fun y' hy' => by rw [hy] at hy'; cases hy'; exact hd⟩)
  refine T.br (fun h2 => ?_) fun _ => ?_
  · obtain ⟨hk, hd⟩ := hb h2
    obtain ⟨y, hy⟩ : ∃ y, s.b[k.toNat]? = some y := ⟨_, List.getElem?_eq_getElem (by omega)⟩
    have hsn := seg_snoc (l := s.b) (f := f.toNat) (k := k.toNat) (y := y) (by omega) hy
    have hk1 : (k + 1).toNat = k.toNat + 1 := by omega
    refine T.ck (by omega) (T.jp (fun u => k - f < 19 → u = 10 * v + (y - 48).toUInt64) (fun J h => T.br (fun _ => ?_) fun h3 => h _ fun h4 => by have := of_decide_eq_false h3; omega) fun u hu => T.ck (by omega) (hL _ ?_ (by simp only; omega)))
    · exact T.get (by omega) hk fun y' hy' => h _ fun _ => by rw [hy] at hy'; cases hy'; rfl
    · refine ⟨by simp only; omega, by simp only; omega, ?_, fun h19 => ?_⟩
      · simp only
        rw [hk1, hsn]
        intro d hd'
        rcases List.mem_append.1 hd' with h | h
        · exact hq3 d h
        · rw [List.mem_singleton.1 h]; exact hd y hy
      · simp only at h19 ⊢
        rw [hk1, hsn, uval_snoc, hu (by omega), hq4 (by omega)]
  refine T.ck (by omega) ?_
  have hlen := seg_len (l := s.b) (f := f.toNat) (k := k.toNat) (by omega)
  refine T.jp (fun b => b = false → 1 ≤ k - f ∧ k - f ≤ 19) (fun J h => T.br (fun _ => h _ (fun h => by cases h)) fun h2 => h _ fun h3 => by have := of_decide_eq_false h2; have := of_decide_eq_false h3; omega) fun b1 hb1 => ?_
  refine T.jp (fun b => b = false → b1 = false) (fun J h => T.br (fun _ => h _ (fun h => by cases h)) fun h2 => ?_) fun b2 hb2 => ?_
  · refine T.jp (fun _ => True) (fun J3 h3 => T.br (fun h4 => T.get (by omega) (by have := of_decide_eq_true h4; omega) fun _ _ => h3 _ trivial) fun _ => h3 _ trivial) fun b _ => h _ fun _ => h2
  refine T.jp (fun b => b = false → b2 = false ∧ (y1 = 45 → ∀ y, s.b[f.toNat]? = some y → y ≠ 48)) (fun J h => T.br (fun _ => h _ (fun h => by cases h)) fun h2 => ?_) fun b3 hb3 => ?_
  · have h5 := hb1 (hb2 h2)
    refine T.jp (fun b => b = false → (y1 = 45 → ∀ y, s.b[f.toNat]? = some y → y ≠ 48)) (fun J3 h3 => T.br (fun h4 => T.get (by omega) (by omega) fun y hy => h3 _ fun h6 _ y' hy' => ?_) fun h4 => h3 _ fun _ h7 => absurd h7 (of_decide_eq_false h4)) fun b hb => h _ fun h6 => ⟨h2, hb h6⟩
    rw [hy] at hy'; cases hy'
    exact of_decide_eq_false h6
  refine T.jp (fun b => b = false → b3 = false) (fun J h => T.br (fun _ => h _ (fun h => by cases h)) fun h2 => T.cal (at_tot s k) fun y _ _ => T.eq (letter_eq y) (h _ fun _ => h2)) fun b4 hb4 => ?_
  refine T.jp (fun b => b = false → b4 = false ∧ ¬ (9223372036854775808 : UInt64) < v) (fun J h => T.br (fun _ => h _ (fun h => by cases h)) fun h2 => h _ fun h3 => ⟨h2, of_decide_eq_false h3⟩) fun b5 hb5 => ?_
  refine T.jp (fun b => b = false → b5 = false ∧ (y1 ≠ 45 → v ≠ 9223372036854775808)) (fun J h => T.br (fun _ => h _ (fun h => by cases h)) fun h2 => ?_) fun b6 hb6 => ?_
  · refine T.jp (fun b => b = false → (y1 ≠ 45 → v ≠ 9223372036854775808)) (fun J3 h3 => T.br (fun h4 => h3 _ fun h5 _ => of_decide_eq_false h5) fun h4 => h3 _ fun _ h5 => absurd h4 (by simp [h5])) fun b hb => h _ fun h6 => ⟨h2, hb h6⟩
  refine T.br (fun _ => T.some (.inl rfl)) fun h2 => T.some (.inr ?_)
  obtain ⟨e5, hv2⟩ := hb6 h2
  obtain ⟨e4, hv1⟩ := hb5 e5
  obtain ⟨e2, hz⟩ := hb3 (hb4 e4)
  obtain ⟨n1, n2⟩ := hb1 (hb2 e2)
  have hv := hq4 n2
  have hvn := uval_dval _ hq3 (by rw [hlen]; omega)
  rw [← hv] at hvn
  have hle : v.toNat ≤ 9223372036854775808 := by
    have : ¬ (9223372036854775808 : UInt64).toNat < v.toNat := fun h => hv1 (UInt64.lt_iff_toNat_lt.2 h)
    have e : (9223372036854775808 : UInt64).toNat = 9223372036854775808 := rfl
    omega
  refine ⟨by omega, hq2, (s.b.take k.toNat).drop f.toNat, hq3, fun h => by rw [h] at hlen; simp at hlen; omega, by rw [hlen]; omega, ?_⟩
  rcases hf with ⟨h45, hfi⟩ | ⟨h45, hfi⟩
  · right
    have hs := seg_cons (l := s.b) (f := i.toNat) (k := k.toNat) (y := y1) (by omega) (by omega) hy1
    have e : i.toNat + 1 = f.toNat := by omega
    rw [e] at hs
    refine ⟨by rw [hs, h45], ?_, by omega⟩
    obtain ⟨y, hy⟩ : ∃ y, s.b[f.toNat]? = some y := ⟨_, List.getElem?_eq_getElem (by omega)⟩
    have hs2 := seg_cons (l := s.b) (f := f.toNat) (k := k.toNat) (y := y) (by omega) (by omega) hy
    rw [hs2] at hq3 ⊢
    exact dval_pos hq3 (hz h45 y hy)
  · left
    subst hfi
    refine ⟨rfl, ?_⟩
    have h3 := hv2 h45
    have : v.toNat ≠ 9223372036854775808 := fun e => h3 (UInt64.toNat_inj.1 e)
    omega
end Go.Proofs.YtdcdndflfhaejaaDoor


namespace Go.Proofs.YtdcdndflfhaejaaDoor
open Go.Sy
set_option linter.unusedVariables false

theorem hex_tot (s : Str) (i : Int) (h0 : 0 ≤ i) (h1 : i < s.b.length) (hl : s.b.length ≤ 1000000) :
    T (fun (r : Int × Str) => r.1 = -1 ∨ (i < r.1 ∧ r.1 ≤ (s.b.length : Int) ∧ r.2.b.length ≤ s.b.length)) (r04_hex s i) := by
  unfold r04_hex
  refine T.ck (by omega) (T.lp (fun (k : Int) => i + 1 ≤ k ∧ k ≤ (s.b.length : Int)) (fun (k : Int) => ((s.b.length : Int) - k).toNat) ⟨Int.le_refl _, by omega⟩ (by omega) fun L k hk hL => ?_)
  refine T.jp (fun b => b = true → k < s.b.length) (fun J h => T.br (fun h2 => ?_) fun _ => h _ (fun h => by cases h)) fun b hb => ?_
  · have h2 := of_decide_eq_true h2
    refine T.get (by omega) h2 fun y _ => T.eq (digit_eq y) ?_
    refine T.jp (fun _ => True) (fun J2 h3 => T.br (fun _ => h3 _ trivial) fun _ => T.get (by omega) h2 fun y _ => ?_) fun q _ => h _ fun _ => h2
    refine T.jp (fun _ => True) (fun J4 h4 => T.br (fun _ => T.get (by omega) h2 fun _ _ => h4 _ trivial) fun _ => h4 _ trivial) fun q _ => h3 _ trivial
  refine T.br (fun h2 => T.ck (by have := hb h2; omega) (hL _ (by have := hb h2; omega) (by have := hb h2; omega))) fun _ => ?_
  refine T.ck (by omega) (T.asr rfl ?_)
  have hat : ∀ (j : Int) y, y = (if 0 ≤ j then (s.b[j.toNat]?).getD 0 else 0) → y ≠ 0 → 0 ≤ j ∧ j < s.b.length := by
    intro j y hy h0
    split at hy
    · rename_i h3
      refine ⟨h3, ?_⟩
      rcases Nat.lt_or_ge j.toNat s.b.length with h4 | h4
      · omega
      · rw [List.getElem?_eq_none h4] at hy; exact absurd hy h0
    · exact absurd hy h0
  refine T.jp (fun _ => True) (fun J h => T.br (fun _ => h _ trivial) fun _ => T.cal (at_tot s k) fun y _ hy => h _ trivial) fun b1 hb1 => ?_
  refine T.jp (fun b => b = false → k + 1 < s.b.length) (fun J h => T.br (fun _ => h _ (fun h => by cases h)) fun _ => T.ck (by omega) (T.cal (at_tot s (k + 1)) fun y _ hy => h _ fun h4 => ?_)) fun b2 hb2 => ?_
  · have h5 : y = 72 := by simpa using h4
    exact (hat _ _ hy (by rw [h5]; decide)).2
  refine T.br (fun _ => T.some (.inl rfl)) fun h3 => T.ck (by omega) (T.asd ?_ (T.some (.inr ?_)))
  · have := hb2 h3; omega
  · have := hb2 h3
    refine ⟨by dsimp only; omega, by dsimp only; omega, ?_⟩
    simp only [List.length_drop, List.length_take]; omega

theorem quoted_tot (s : Str) (i : Int) (h0 : 0 ≤ i) (h1 : i < s.b.length) (hl : s.b.length ≤ 1000000) :
    T (fun (r : Int × Str) => r.1 = -1 ∨ (i < r.1 ∧ r.1 ≤ (s.b.length : Int) ∧ r.2.b.length ≤ s.b.length)) (r04_quoted s i) := by
  unfold r04_quoted
  refine T.ck (by omega) (T.lp (ι := Int × Str) (fun q => i + 1 ≤ q.1 ∧ q.1 ≤ s.b.length + 1 ∧ (q.2.b.length : Int) < q.1) (fun q => (s.b.length + 1 - q.1).toNat) ⟨Int.le_refl _, by dsimp only; omega, by dsimp only; simp only [List.length_nil]; omega⟩ (by dsimp only; omega) fun L q hq hL => ?_)
  obtain ⟨k, o⟩ := q
  obtain ⟨hq1, hq2, hq3⟩ := hq
  simp only at hq1 hq2 hq3 ⊢
  refine T.br (fun h2 => ?_) fun _ => T.some (.inl rfl)
  have h2 := of_decide_eq_true h2
  refine T.jp (fun (q : Int × Str) => k ≤ q.1 ∧ q.1 < (s.b.length : Int) ∧ (q.2.b.length : Int) < q.1 + 1) (fun J h => ?_) fun q hq => ?_
  · refine T.get (by omega) h2 fun y _ => T.br (fun _ => ?_) fun _ => ?_
    · refine T.ck (by omega) (T.asd (by omega) (T.abl ?_ (h _ ?_)))
      · simp only [List.length_drop, List.length_take]; omega
      · refine ⟨Int.le_refl _, by dsimp only; omega, ?_⟩
        simp only [List.length_append, List.length_drop, List.length_take]; omega
    · refine T.ck (by omega) (T.cal (at_tot s (k + 1)) fun y2 _ hy2 => T.br (fun _ => ?_) fun h34 => ?_)
      · exact T.eq rfl (T.br (fun _ => T.some (.inl rfl)) fun _ => T.ck (by omega) (T.some (.inr ⟨by dsimp only; omega, by dsimp only; omega, by dsimp only; omega⟩)))
      · have hlt : k + 1 < s.b.length := by
          have h5 : y2 = 34 := by simpa using h34
          rw [if_pos (by omega)] at hy2
          rcases Nat.lt_or_ge (k + 1).toNat s.b.length with h4 | h4
          · omega
          · rw [List.getElem?_eq_none h4, h5] at hy2; cases hy2
        refine T.abl ?_ (T.ck (by omega) (h _ ?_))
        · simp only [List.length_cons, List.length_nil]; omega
        · refine ⟨by dsimp only; omega, by dsimp only; omega, ?_⟩
          simp only [List.length_append, List.length_cons, List.length_nil]; omega
  · exact T.ck (by omega) (hL _ ⟨by dsimp only; omega, by dsimp only; omega, hq.2.2⟩ (by dsimp only; omega))

theorem in_string_tot (l : List Str) (x : Str) (hl : l.length ≤ 1000000) : T (fun r => r = decide (x ∈ l)) (h_In_string l x) := by
  unfold h_In_string
  refine T.lp (fun (k : Int) => 0 ≤ k ∧ k ≤ (l.length : Int) ∧ x ∉ l.take k.toNat) (fun (k : Int) => ((l.length : Int) - k).toNat) ⟨Int.le_refl _, by omega, by simp⟩ (by omega) fun L k hk hL => ?_
  refine T.br (fun h2 => ?_) fun h2 => T.some ?_
  · have h2 := of_decide_eq_true h2
    refine T.get hk.1 h2 fun y hy => T.br (fun h3 => T.some ?_) fun h3 => T.ck (by omega) (hL _ ⟨by omega, by omega, ?_⟩ (by omega))
    · have h3 := of_decide_eq_true h3
      subst h3
      exact (decide_eq_true (List.mem_of_getElem? hy)).symm
    · have h3 := of_decide_eq_false h3
      have e : (k + 1).toNat = k.toNat + 1 := by omega
      rw [e, List.take_add_one, hy]
      simp only [Option.toList_some, List.mem_append, List.mem_singleton, not_or]
      exact ⟨hk.2.2, fun h => h3 h.symm⟩
  · have h2 := of_decide_eq_false h2
    have h4 := hk.2.2
    rw [List.take_of_length_le (by omega)] at h4
    exact (decide_eq_false h4).symm

theorem sign_tot (s : Str) (i : Int) (h0 : 0 ≤ i) (h1 : i < s.b.length) (hl : s.b.length ≤ 1000000) : T (fun (r : Int) => 0 ≤ r ∧ i + r ≤ (s.b.length : Int)) (r04_sign s i) := by
  unfold r04_sign
  refine T.asd (by omega) (T.lp (fun (k : Int) => 0 ≤ k) (fun (k : Int) => (13 - k).toNat) (Int.le_refl _) (by omega) fun L k hk hL => ?_)
  refine T.br (fun h2 => ?_) fun _ => T.some ⟨Int.le_refl _, by omega⟩
  have h2 := of_decide_eq_true h2
  have hrest : ((Str.mk ((s.b.take ((s.b.length : Int)).toNat).drop i.toNat)).b.length : Int) = s.b.length - i := by
    simp only [List.length_drop, List.length_take]; omega
  refine T.get hk h2 fun y hy => ?_
  refine T.jp (fun b => b = true → i + (y.b.length : Int) ≤ s.b.length) (fun J h => T.br (fun h3 => ?_) fun _ => h _ (fun h => by cases h)) fun b hb => ?_
  · have h3 := of_decide_eq_true h3
    rw [hrest] at h3
    refine T.asd ⟨Int.le_refl _, by omega, by rw [hrest]; exact h3⟩ (T.get hk h2 fun y2 hy2 => h _ fun _ => by omega)
  · refine T.br (fun h3 => T.some ⟨by omega, hb h3⟩) fun _ => T.ck (by have h2 : k < 13 := h2; omega) (hL _ (by omega) ?_)
    have h2 : k < 13 := h2
    omega

/-- What a sign of the text is. -/
structure TokOk (n : Nat) (t : GTok) : Prop where
  num : t.kind = 3 → NumOk t.text.b
  len : t.text.b.length ≤ n
  at0 : 0 ≤ t.at_ ∧ t.at_ ≤ n
theorem words_len : ∀ r, r04_words = some r → r.length ≤ 1000000 := by
  intro r h
  unfold r04_words at h
  have := Option.some.inj h
  subst this
  decide
theorem word_tot (s : Str) : T (fun _ => True) (r04_Word s) := by
  unfold r04_Word
  refine T.cal (Q := fun _ => True) ⟨_, rfl, trivial⟩ fun y hy _ => T.cal (in_string_tot y s (words_len y hy)) fun _ _ _ => T.some trivial

theorem one_tot (s : Str) (i : Int) (h0 : 0 ≤ i) (h1 : i < s.b.length) (hl : s.b.length ≤ 1000000) :
    T (fun (r : GTok × Int) => r.2 < 0 ∨ (i < r.2 ∧ r.2 ≤ (s.b.length : Int) ∧ TokOk s.b.length r.1 ∧ 1 ≤ r.1.kind ∧ r.1.kind ≤ 7)) (r04_one s i) := by
  unfold r04_one
  refine T.get h0 h1 fun y hy => ?_
  refine T.jp (ι := Int × GTok) (fun (q : Int × GTok) => q.1 < 0 ∨ (i < q.1 ∧ q.1 ≤ (s.b.length : Int) ∧ TokOk s.b.length q.2 ∧ 1 ≤ q.2.kind ∧ q.2.kind ≤ 7)) (fun J h => ?_) fun q hq => T.some hq
  have hsub : ∀ (a b : Nat), ((s.b.take a).drop b).length ≤ s.b.length := fun a b => by rw [List.length_drop, List.length_take]; omega
  refine T.eq (letter_eq y) (T.br (fun hle => ?_) fun _ => T.eq (digit_eq y) ?_)
  · refine T.cal (name_tot s i h0 h1 hl fun y' hy' => by rw [hy] at hy'; cases hy'; exact hle) fun e _ he => T.br (fun _ => T.some (.inl (by dsimp only; omega))) fun hn => ?_
    have hn := of_decide_eq_false hn
    have he' : i < e ∧ e ≤ s.b.length := by omega
    refine T.asd (by omega) (T.jp (ι := GTok) (fun t => (t.kind = 1 ∨ t.kind = 2) ∧ t.text.b.length ≤ s.b.length ∧ t.at_ = i) (fun J2 h2 => T.br (fun _ => h2 _ ⟨.inl rfl, hsub _ _, rfl⟩) fun _ => h2 _ ⟨.inr rfl, hsub _ _, rfl⟩) fun t ht => ?_)
    obtain ⟨ht1, ht2, ht3⟩ := ht
    refine T.cal (word_tot t.text) fun w _ _ => T.br (fun _ => h _ (.inr ⟨he'.1, he'.2, ⟨fun h => by simp at h, ht2, by dsimp only; omega⟩, by simp, by simp⟩)) fun _ => h _ (.inr ⟨he'.1, he'.2, ⟨fun h => by rw [h] at ht1; omega, ht2, by dsimp only; omega⟩, by dsimp only; omega, by dsimp only; omega⟩)
  · refine T.jp (fun _ => True) (fun J2 h2 => T.br (fun _ => h2 _ trivial) fun _ => ?_) fun b _ => ?_
    · refine T.jp (fun _ => True) (fun J3 h3 => T.br (fun _ => T.ck (by omega) (T.cal (at_tot s _) fun y _ _ => T.eq (digit_eq y) (h3 _ trivial))) fun _ => h3 _ trivial) fun _ _ => h2 _ trivial
    refine T.br (fun _ => T.cal (number_tot s i h0 h1 hl) fun e _ he => T.br (fun _ => T.some (.inl (by dsimp only; omega))) fun hn => ?_) fun _ => ?_
    · have hn := of_decide_eq_false hn
      have he' : i < e ∧ e ≤ s.b.length ∧ NumOk ((s.b.take e.toNat).drop i.toNat) := by
        rcases he with h | h
        · omega
        · exact h
      exact T.asd (by omega) (h _ (.inr ⟨he'.1, he'.2.1, ⟨fun _ => he'.2.2, hsub _ _, by dsimp only; omega⟩, by simp, by simp⟩))
    · refine T.br (fun _ => T.cal (hex_tot s i h0 h1 hl) fun e _ he => h _ ?_) fun _ => T.br (fun _ => T.cal (quoted_tot s i h0 h1 hl) fun e _ he => h _ ?_) fun _ => ?_
      · rcases he with h | h
        · left; rw [h]; decide
        · exact .inr ⟨h.1, h.2.1, ⟨fun h => by simp at h, h.2.2, by dsimp only; omega⟩, by simp, by simp⟩
      · rcases he with h | h
        · left; rw [h]; decide
        · exact .inr ⟨h.1, h.2.1, ⟨fun h => by simp at h, h.2.2, by dsimp only; omega⟩, by simp, by simp⟩
      · refine T.cal (sign_tot s i h0 h1 hl) fun e _ he => T.br (fun hp => ?_) fun _ => h _ (.inl (by dsimp only; omega))
        have hp := of_decide_eq_true hp
        exact T.ck (by omega) (T.asd (by omega) (T.ck (by omega) (h _ (.inr ⟨by dsimp only; omega, by dsimp only; omega, ⟨fun h => by simp at h, hsub _ _, by dsimp only; omega⟩, by simp, by simp⟩))))

/-- All signs of a text: the last one is the end. -/
structure ToksOk (l : List GTok) : Prop where
  len : l.length ≤ 8001
  ok : ∀ t ∈ l, TokOk 8000 t
  last : ∃ m e, l = m ++ [e] ∧ e.kind = 0 ∧ ∀ t ∈ m, 1 ≤ t.kind ∧ t.kind ≤ 7

theorem tokens_tot (s : Str) : T (fun r => r.2.2 = 0 → ToksOk r.1) (r04_Tokens s) := by
  unfold r04_Tokens
  refine T.br (fun _ => T.some (fun h => by cases h)) fun hl => ?_
  have hl := of_decide_eq_false hl
  refine T.lp (ι := List GTok × Int) (fun (q : List GTok × Int) => 0 ≤ q.2 ∧ q.2 ≤ (s.b.length : Int) ∧ (q.1.length : Int) ≤ q.2 ∧ (∀ t ∈ q.1, TokOk 8000 t ∧ 1 ≤ t.kind ∧ t.kind ≤ 7)) (fun (q : List GTok × Int) => ((s.b.length : Int) - q.2).toNat) ⟨Int.le_refl _, by dsimp only; omega, by simp, by simp⟩ (by dsimp only; omega) fun L q hq hL => ?_
  obtain ⟨l, k⟩ := q
  obtain ⟨h1, h2, h3, h4⟩ := hq
  simp only at h1 h2 h3 h4 ⊢
  refine T.cal (white_tot s k h1 h2 (by omega)) fun e _ he => T.br (fun _ => ?_) fun hb => ?_
  · refine T.abl (by simp only [List.length_cons, List.length_nil]; omega) (T.some fun _ => ⟨?_, ?_, ⟨l, _, rfl, rfl, fun t ht => (h4 t ht).2⟩⟩)
    · simp only [List.length_append, List.length_cons, List.length_nil]; omega
    · intro t ht
      rcases List.mem_append.1 ht with h | h
      · exact (h4 t h).1
      · rw [List.mem_singleton.1 h]; exact ⟨fun h => by simp at h, by simp, by dsimp only; omega⟩
  · have hb := of_decide_eq_false hb
    refine T.cal (one_tot s e (by omega) (by omega) (by omega)) fun r _ hr => T.br (fun _ => T.some (fun h => by cases h)) fun hn => ?_
    have hn := of_decide_eq_false hn
    rcases hr with h | ⟨r1, r2, r3, r4, r5⟩
    · exact absurd h hn
    refine T.abl (by simp only [List.length_cons, List.length_nil]; omega) (hL _ ⟨by dsimp only; omega, by dsimp only; omega, ?_, fun t ht => ?_⟩ (by dsimp only; omega))
    · simp only [List.length_append, List.length_cons, List.length_nil]; omega
    · rcases List.mem_append.1 ht with h | h
      · exact h4 t h
      · rw [List.mem_singleton.1 h]; exact ⟨⟨r3.num, by have := r3.len; omega, by have := r3.at0; omega⟩, r4, r5⟩
end Go.Proofs.YtdcdndflfhaejaaDoor


namespace Go.Proofs.YtdcdndflfhaejaaDoor
open Go.Sy
set_option linter.unusedVariables false

theorem tx {β : Type} {o : Option β} {x : β} (h : T (fun r => r = x) o) : o = some x := by
  obtain ⟨r, h1, h2⟩ := h; rw [h1, h2]
def hd : List UInt8 → UInt8
  | [] => 0
  | c :: _ => c
theorem hd_drop (b : List UInt8) (n : Nat) : hd (b.drop n) = (b[n]?).getD 0 := by
  rcases Nat.lt_or_ge n b.length with h | h
  · rw [List.drop_eq_getElem_cons h, List.getElem?_eq_getElem h]; rfl
  · rw [List.drop_eq_nil_of_le h, List.getElem?_eq_none h]; rfl
theorem dropc {b : List UInt8} {n : Nat} {y : UInt8} (h : b[n]? = some y) : b.drop n = y :: b.drop (n + 1) := by
  obtain ⟨h1, h2⟩ := List.getElem?_eq_some_iff.1 h
  rw [List.drop_eq_getElem_cons h1, h2]
theorem at_eq (s : Str) (i : Int) (h : 0 ≤ i) : r04_at s i = some (hd (s.b.drop i.toNat)) := by
  obtain ⟨r, h1, h2⟩ := at_tot s i
  rw [h1, h2, if_pos h, hd_drop]

/-! ### White -/
inductive Wst where
  | out
  | start
  | ins
  | fin
def isWh (c : UInt8) : Bool := decide (c = 32) || decide (c = 9) || decide (c = 10) || decide (c = 13)
def wh : Wst → List UInt8 → List UInt8
  | _, [] => []
  | .out, c :: r => bif isWh c then wh .out r else bif decide (c = 45) && decide (hd r = 45) then wh .start r else c :: r
  | .start, _ :: r => wh .ins r
  | .ins, c :: r => bif decide (c = 10) then wh .out r else bif decide (c = 45) && decide (hd r = 45) then wh .fin r else wh .ins r
  | .fin, _ :: r => wh .out r
theorem hd_ne {b : List UInt8} {n : Nat} (h : hd (b.drop n) = 45) : n < b.length := by
  rcases Nat.lt_or_ge n b.length with h2 | h2
  · exact h2
  · rw [List.drop_eq_nil_of_le h2] at h; cases h
theorem skip1 {b : List UInt8} {n : Nat} (h : n < b.length) : ∃ c, b.drop n = c :: b.drop (n + 1) := ⟨_, List.drop_eq_getElem_cons h⟩
theorem white_eq (s : Str) (i : Int) (h0 : 0 ≤ i) (h1 : i ≤ s.b.length) (hl : s.b.length ≤ 1000000) : r04_white s i = some ((s.b.length : Int) - ((wh .out (s.b.drop i.toNat)).length : Int)) := by
  refine tx ?_
  unfold r04_white
  refine T.lp (fun k => i ≤ k ∧ k ≤ s.b.length ∧ wh .out (s.b.drop k.toNat) = wh .out (s.b.drop i.toNat)) (fun k => (s.b.length - k).toNat) ⟨Int.le_refl _, h1, rfl⟩ (by omega) fun L k ⟨k1, k2, k3⟩ hL => ?_
  rw [← k3] at hL ⊢
  refine T.br (fun hb => ?_) (fun hb => T.some ?_)
  rotate_left
  · have hb := of_decide_eq_false hb
    rw [List.drop_eq_nil_of_le (by omega)]
    simp only [wh, List.length_nil]; omega
  have hb := of_decide_eq_true hb
  refine T.get (by omega) hb fun y hy => ?_
  have e := dropc hy
  have e1 : (k + 1).toNat = k.toNat + 1 := by omega
  refine T.jp (fun q => q = (decide (y = 32) || decide (y = 9))) (fun J h => T.br (fun h2 => h _ (by rw [h2]; rfl)) fun h2 => T.get (by omega) hb fun y' hy' => h _ (by rw [hy] at hy'; cases hy'; rw [h2]; rfl)) fun q hq => ?_
  refine T.jp (fun q' => q' = (q || decide (y = 10))) (fun J h => T.br (fun h2 => h _ (by rw [h2]; rfl)) fun h2 => T.get (by omega) hb fun y' hy' => h _ (by rw [hy] at hy'; cases hy'; rw [h2]; rfl)) fun q' hq' => ?_
  refine T.jp (fun q2 => q2 = (q' || decide (y = 13))) (fun J h => T.br (fun h2 => h _ (by rw [h2]; rfl)) fun h2 => T.get (by omega) hb fun y' hy' => h _ (by rw [hy] at hy'; cases hy'; rw [h2]; rfl)) fun q2 hq2 => ?_
  have hw : q2 = isWh y := by rw [hq2, hq', hq]; rfl
  refine T.br (fun h2 => T.ck (by omega) ?_) fun h2 => ?_
  · refine hL _ ⟨by omega, by omega, ?_⟩ (by omega)
    rw [e1, e]; simp only [wh, ← hw, h2, cond_true]
  refine T.get (by omega) hb fun y' hy' => ?_
  rw [hy] at hy'; cases hy'
  refine T.jp (fun q => q = (decide (y = 45) && decide (hd (s.b.drop (k.toNat + 1)) = 45))) (fun J h => T.br (fun h3 => T.ck (by omega) (T.eq (at_eq s _ (by omega)) (h _ (by rw [h3, e1]; rfl)))) fun h3 => h _ (by rw [h3]; rfl)) fun q3 hq3 => ?_
  refine T.br (fun h3 => T.ck (by omega) ?_) (fun h3 => T.some ?_)
  rotate_left
  · rw [e]; simp only [wh, ← hw, h2, cond_false, ← hq3, h3, List.length_cons, List.length_drop]; omega
  have h45 : hd (s.b.drop (k.toNat + 1)) = 45 := by rw [hq3] at h3; simpa using (Bool.and_eq_true_iff.1 h3).2
  have hlt := hd_ne h45
  obtain ⟨c, ec⟩ := skip1 hlt
  have e2 : (k + 2).toNat = k.toNat + 1 + 1 := by omega
  have hins : wh .out (s.b.drop k.toNat) = wh .ins (s.b.drop (k + 2).toNat) := by
    rw [e, e2]; simp only [wh, ← hw, h2, cond_false, ← hq3, h3, cond_true]; rw [ec]; simp only [wh]
  refine T.lp (fun j => k + 2 ≤ j ∧ j ≤ s.b.length ∧ wh .out (s.b.drop k.toNat) = wh .ins (s.b.drop j.toNat)) (fun j => (s.b.length - j).toNat) ⟨Int.le_refl _, by omega, hins⟩ (by omega) fun L2 j ⟨j1, j2, j3⟩ hL2 => ?_
  refine T.jp (fun q => (q = true → j < s.b.length ∧ ∀ y, s.b[j.toNat]? = some y → y ≠ 10) ∧ (q = false → wh .out (s.b.drop j.toNat) = wh .ins (s.b.drop j.toNat))) (fun J h => T.br (fun h4 => ?_) fun h4 => h _ ⟨(fun h => by cases h), fun _ => ?_⟩) fun q hq => ?_
  · have h4 := of_decide_eq_true h4
    refine T.get (by omega) h4 fun y2 hy2 => h _ ⟨fun h5 => ⟨h4, fun y3 hy3 => ?_⟩, fun h5 => ?_⟩
    · rw [hy2] at hy3; cases hy3; simpa using h5
    · have h6 : y2 = 10 := by simpa using h5
      subst h6
      rw [dropc hy2]
      simp [wh, isWh]
  · have h4 := of_decide_eq_false h4
    rw [List.drop_eq_nil_of_le (by omega)]; simp only [wh]
  refine T.br (fun h4 => ?_) (fun h4 => hL _ ⟨by omega, j2, by rw [hq.2 h4, j3]⟩ (by omega))
  obtain ⟨hj, hne⟩ := hq.1 h4
  refine T.get (by omega) hj fun y2 hy2 => ?_
  have hy10 := hne y2 hy2
  have f := dropc hy2
  have f1 : (j + 1).toNat = j.toNat + 1 := by omega
  refine T.jp (fun q => q = (decide (y2 = 45) && decide (hd (s.b.drop (j.toNat + 1)) = 45))) (fun J h => T.br (fun h3 => T.ck (by omega) (T.eq (at_eq s _ (by omega)) (h _ (by rw [h3, f1]; rfl)))) fun h3 => h _ (by rw [h3]; rfl)) fun q4 hq4 => ?_
  refine T.br (fun h5 => T.ck (by omega) ?_) (fun h5 => T.ck (by omega) (hL2 _ ⟨by omega, by omega, ?_⟩ (by omega)))
  · have h46 : hd (s.b.drop (j.toNat + 1)) = 45 := by rw [hq4] at h5; simpa using (Bool.and_eq_true_iff.1 h5).2
    have hlt2 := hd_ne h46
    obtain ⟨c2, ec2⟩ := skip1 hlt2
    have f2 : (j + 2).toNat = j.toNat + 1 + 1 := by omega
    refine hL _ ⟨by omega, by omega, ?_⟩ (by omega)
    rw [j3, f, f2]; simp only [wh, decide_eq_false hy10, cond_false, ← hq4, h5, cond_true]; rw [ec2]; simp only [wh]
  · rw [j3, f, f1]; simp only [wh, decide_eq_false hy10, cond_false, ← hq4, h5]

/-! ### Names -/
def inName (c : UInt8) (r : List UInt8) : Bool := isLetter c || isDigit c || (decide (c = 45) && !decide (hd r = 45))
def nm : List UInt8 → Nat
  | [] => 0
  | c :: r => bif inName c r then nm r + 1 else 0
theorem nm_cons (c : UInt8) (r : List UInt8) : nm (c :: r) = bif inName c r then nm r + 1 else 0 := rfl
theorem nm_le : ∀ b : List UInt8, nm b ≤ b.length
  | [] => Nat.le_refl _
  | c :: r => by
    have := nm_le r
    unfold nm
    cases inName c r <;> simp <;> omega
/-- May what stands ahead be a name? -/
def nmBad (b : List UInt8) : Bool := decide ((b.take (nm b)).getLast? = some 45) || decide (60 < nm b)
theorem last_take {b : List UInt8} {n : Nat} {y : UInt8} (hn : 0 < n) (hy : b[n - 1]? = some y) : (b.take n).getLast? = some y := by
  have hlt := (List.getElem?_eq_some_iff.1 hy).1
  rw [List.getLast?_eq_getElem?, List.length_take, List.getElem?_take, Nat.min_eq_left (by omega), if_pos (by omega), hy]
theorem name_eq (s : Str) (i : Int) (h0 : 0 ≤ i) (h1 : i < s.b.length) (hl : s.b.length ≤ 1000000) (hc : isLetter (hd (s.b.drop i.toNat)) = true) :
    r04_name s i = some (bif nmBad (s.b.drop i.toNat) then -1 else i + nm (s.b.drop i.toNat)) := by
  refine tx ?_
  unfold r04_name
  have hi0 : 0 < nm (s.b.drop i.toNat) := by
    obtain ⟨c, ec⟩ := skip1 (b := s.b) (n := i.toNat) (by omega)
    rw [ec] at hc ⊢
    unfold nm inName
    simp only [hd] at hc
    rw [hc]; simp
  refine T.lp (fun k => i ≤ k ∧ k ≤ s.b.length ∧ (nm (s.b.drop i.toNat) : Int) = k - i + nm (s.b.drop k.toNat)) (fun k => (s.b.length - k).toNat) ⟨Int.le_refl _, by omega, by omega⟩ (by omega) fun L k ⟨k1, k2, k3⟩ hL => ?_
  refine T.jp (fun q => (q = true → k < s.b.length ∧ (nm (s.b.drop i.toNat) : Int) = k + 1 - i + nm (s.b.drop (k + 1).toNat)) ∧ (q = false → (nm (s.b.drop i.toNat) : Int) = k - i)) (fun J h => ?_) fun q hq => ?_
  · refine T.br (fun hb => ?_) (fun hb => h _ ⟨(fun h => by cases h), fun _ => by
      have := of_decide_eq_false hb
      rw [List.drop_eq_nil_of_le (as := s.b) (i := k.toNat) (by omega)] at k3
      simpa [nm] using k3⟩)
    have hb := of_decide_eq_true hb
    refine T.get (by omega) hb fun y hy => ?_
    have e := dropc hy
    have e1 : (k + 1).toNat = k.toNat + 1 := by omega
    refine T.eq (letter_eq y) ?_
    refine T.jp (fun q => q = (isLetter y || isDigit y)) (fun J2 h2 => T.br (fun h3 => h2 _ (by rw [h3]; rfl)) fun h3 => T.get (by omega) hb fun y2 hy2 => T.eq (digit_eq y2) (h2 _ (by rw [hy] at hy2; cases hy2; rw [h3]; rfl))) fun q hq => ?_
    refine T.jp (fun q2 => q2 = inName y (s.b.drop (k.toNat + 1))) (fun J2 h2 => T.br (fun h3 => h2 _ (by unfold inName; rw [← hq, h3]; rfl)) fun h3 => T.get (by omega) hb fun y2 hy2 => ?_) fun q2 hq2 => ?_
    · rw [hy] at hy2; cases hy2
      refine T.jp (fun q3 => q3 = (decide (y = 45) && !decide (hd (s.b.drop (k.toNat + 1)) = 45))) (fun J3 h4 => T.br (fun h5 => T.ck (by omega) (T.eq (at_eq s _ (by omega)) (h4 _ (by rw [h5, e1]; rfl)))) fun h5 => h4 _ (by rw [h5]; rfl)) fun q3 hq3 => h2 _ ?_
      unfold inName; rw [← hq, h3, hq3]; rfl
    · rw [e, nm_cons] at k3
      refine h _ ⟨fun h3 => ⟨hb, ?_⟩, fun h3 => ?_⟩
      · rw [← hq2, h3, cond_true] at k3
        rw [e1]; omega
      · rw [← hq2, h3, cond_false] at k3
        omega
  refine T.br (fun hb => T.ck (by have := hq.1 hb; omega) (hL _ ⟨by omega, by have := hq.1 hb; omega, (hq.1 hb).2⟩ (by have := hq.1 hb; omega))) fun hb => ?_
  have hn := hq.2 hb
  refine T.ck (by omega) (T.get (by omega) (by omega) fun y hy => ?_)
  have hlast : ((s.b.drop i.toNat).take (nm (s.b.drop i.toNat))).getLast? = some y := by
    refine last_take hi0 ?_
    rw [List.getElem?_drop]
    have : i.toNat + (nm (s.b.drop i.toNat) - 1) = (k - 1).toNat := by omega
    rw [this, hy]
  refine T.jp (fun q => q = nmBad (s.b.drop i.toNat)) (fun J h => T.br (fun h3 => h _ ?_) fun h3 => T.ck (by omega) (h _ ?_)) fun q hq => ?_
  · unfold nmBad
    rw [hlast]
    have := of_decide_eq_true h3
    subst this; rfl
  · unfold nmBad
    rw [hlast]
    have := of_decide_eq_false h3
    have e : decide (some y = some (45 : UInt8)) = false := by simpa using this
    rw [e, Bool.false_or, decide_eq_decide]
    omega
  · rw [← hq]
    exact T.br (fun h3 => T.some (by rw [h3]; rfl)) fun h3 => T.some (by rw [h3, cond_false]; omega)
end Go.Proofs.YtdcdndflfhaejaaDoor

