/- Walks, printed by mill.py. -/
import Derived.Test.YtajbipkppngccaaDoorExA
import Derived.Test.YtajbipkppngccaaDoorExB
import Derived.Test.YtajbipkppngccaaDoorExC

namespace Go.Proofs.YtajbipkppngccaaDoor
open Go.Sy
set_option maxRecDepth 4000
theorem r05_Parse_w : ∀ {a_text : Str} {r : GMod × Int × Int}, r05_Parse a_text = some r → Ctr Tryd.prog 32 [isv (a_text)] [] (fun R H => R = oneOf [isv (r.1), isv (r.2.1), isv (r.2.2)] ∧ H = []) := by
 intro a_text r h
 unfold r05_Parse at h
 refine spec_intro Tryd.func32 rfl (by decide +kernel) (by rfl) fun w0 S0 hT => ?_
 refine wsr ?_
 refine oT (t_alloc _ ze75 fun b1 => ?_)
 refine oV (v_assign rfl) ?_
 refine oV (v_assign rfl) ?_
 refine rnf ?_
 refine wsr ?_
 refine oV (v_move rfl) ?_
 refine cal_inv h fun y2 hy2 h => ?_
 refine oT (t_call (r04_Tokens_w hy2) hT (.same rfl .nil) .nil (fun R H' hR => ?_))
 obtain ⟨rfl, rfl⟩ := hR
 refine oV (v_move rfl) ?_
 refine oV (v_extract rfl rfl) ?_
 refine oV (v_extract rfl rfl) ?_
 refine oV (v_extract rfl rfl) ?_
 refine oV (v_assign rfl) ?_
 refine oV (v_assign rfl) ?_
 refine oV (v_assign rfl) ?_
 refine rnf ?_
 refine w_seq ?_
 refine wsr ?_
 refine oV (v_move rfl) ?_
 refine oV (v_neq rfl rfl) ?_
 refine rnf ?_
 refine w_condM h rfl (fun _ h => ?_) (fun _ h => ?_)
 ·
  refine wsr ?_
  refine oV (v_build (z := (GMod.mk (Str.mk []) (0 : Int) ([] : (List Str)) ([] : (List Int)) ([] : (List GNode)))) rfl bu75 ze75 .nil) ?_
  refine oV (v_move rfl) ?_
  refine oV (v_move rfl) ?_
  refine oT (t_storeC (y' := ((GMod.mk (Str.mk []) (0 : Int) ([] : (List Str)) ([] : (List Int)) ([] : (List GNode))) : GMod)) ty75 rfl rfl (fun _ _ h => h) .here rfl ?_)
  refine oV (v_assign rfl) ?_
  refine oV (v_assign rfl) ?_
  refine rnf ?_
  refine w_ret ?_
  refine ret_nxt ?_
  refine ret_post (.cell rfl .here ty75 (.tmp rfl (.tmp rfl .nil))) .nil ?_
  obtain rfl := Option.some.inj h
  exact ⟨rfl, rfl⟩
 ·
  refine wkf ?_
  refine wsr ?_
  refine oV (v_move rfl) ?_
  refine oV (v_build (z := ((y2.1, (0 : Int), ((Str.mk []), (0 : Int), (TList.mk none ([] : (List Str))), (TList.mk none ([] : (List Int))), (Vh.mk none 0)), (0 : Int), (0 : Int)) : ((List GTok) × Int × (Str × Int × (TList Str) × (TList Int) × Vh) × Int × Int))) rfl bu101 zt101_0 (.cons pt101_0_0 fd101_0 rfl (fun _ _ h => h) .nil)) ?_
  refine oT (t_boxC (y := ((y2.1, (0 : Int), ((Str.mk []), (0 : Int), (TList.mk none ([] : (List Str))), (TList.mk none ([] : (List Int))), (Vh.mk none 0)), (0 : Int), (0 : Int)) : ((List GTok) × Int × (Str × Int × (TList Str) × (TList Int) × Vh) × Int × Int))) rfl (fun _ _ h => h) fun b3 => ?_)
  refine rl_upd (upd_tok) ?_
  refine rl_upd (upd_tok) ?_
  refine rl_upd (upd_vec (α := GNode)) ?_
  refine oV (v_assign rfl) ?_
  refine rnf ?_
  refine wsr ?_
  refine oV (v_move rfl) ?_
  refine oV (v_move rfl) ?_
  refine cal_inv h fun y7 hy7 h => ?_
  refine oT (t_call (r05_parser_kind_w hy7) hT (.same rfl (.same rfl .nil)) (.cons (.there (.there (.there .here))) (.cons (.there (.there .here)) (.cons (.there .here) (.cons .here .nil)))) (fun R H' hR => ?_))
  obtain ⟨t8, t9, rfl, rfl⟩ := hR
  refine oV (v_nilCheck rfl) ?_
  refine oV (v_fa rfl pt101_0_2 fd101_2) ?_
  refine oV (v_fa rfl pt75_0_0 fd75_0) ?_
  refine oT (t_storeC (y' := ((y7.2.l, y7.2.at_, (y7.1, y7.2.m.tagging, (TList.mk t8 y7.2.m.names), (TList.mk t9 y7.2.m.types), (Vh.mk none y7.2.m.nodes.length)), y7.2.e, y7.2.p) : ((List GTok) × Int × (Str × Int × (TList Str) × (TList Int) × Vh) × Int × Int))) ty9 rfl rfl (fun _ _ h => h) .here rfl ?_)
  refine rnf ?_
  refine wsr ?_
  refine oV (v_move rfl) ?_
  refine cal_inv h fun y10 hy10 h => ?_
  refine oT (t_call (r05_parser_must_w hy10) hT (.same rfl (.same rfl .nil)) (.cons .here (.cons .here (.cons .here (.cons .here .nil)))) (fun R H' hR => ?_))
  obtain ⟨t11, t12, rfl, rfl⟩ := hR
  refine rnf ?_
  refine w_seq ?_
  refine w_J (ι := GPar) (γ := Tok × Tok) (fun q13 g13 => []) (fun q13 g13 => [boxE b3 ((q13.l, q13.at_, (q13.m.name, q13.m.tagging, (TList.mk g13.1 q13.m.names), (TList.mk g13.2 q13.m.types), (Vh.mk none q13.m.nodes.length)), q13.e, q13.p) : ((List GTok) × Int × (Str × Int × (TList Str) × (TList Int) × Vh) × Int × Int)), tokE g13.1, tokE g13.2, vecE none (q13.m.nodes : List GNode)]) (.cons .here (.cons .here (.cons .here (.cons .here .nil)))) h (fun q13 g13 h => ?_) (fun J14 h hJ14 => ?_)
  ·
   refine wsr ?_
   refine oV (v_move rfl) ?_
   refine cal_inv h fun y33 hy33 h => ?_
   refine oT (t_call (r05_parser_must_w hy33) hT (.same rfl (.same rfl .nil)) (.cons .here (.cons .here (.cons .here (.cons .here .nil)))) (fun R H' hR => ?_))
   obtain ⟨t34, t35, rfl, rfl⟩ := hR
   refine rnf ?_
   refine wsr ?_
   refine oV (v_move rfl) ?_
   refine cal_inv h fun y36 hy36 h => ?_
   refine oT (t_call (r05_parser_must_w hy36) hT (.same rfl (.same rfl .nil)) (.cons .here (.cons .here (.cons .here (.cons .here .nil)))) (fun R H' hR => ?_))
   obtain ⟨t37, t38, rfl, rfl⟩ := hR
   refine rnf ?_
   refine w_seq ?_
   refine w_block ?_
   refine w_lp (ι := GPar) (γ := Tok × Tok × Vt) (fun q39 g39 => []) (fun q39 g39 => [boxE b3 ((q39.l, q39.at_, (q39.m.name, q39.m.tagging, (TList.mk g39.1 q39.m.names), (TList.mk g39.2.1 q39.m.types), (Vh.mk g39.2.2 q39.m.nodes.length)), q39.e, q39.p) : ((List GTok) × Int × (Str × Int × (TList Str) × (TList Int) × Vh) × Int × Int)), tokE g39.1, tokE g39.2.1, vecE g39.2.2 (q39.m.nodes : List GNode)]) h (t37, t38, none) mod_nil (.cons .here (.cons .here (.cons .here (.cons .here .nil)))) (fun L40 q39 g39 Q141 h hL40 eL40 rL40 => ?_)
   refine w_seq ?_
   refine wsr ?_
   refine oV (v_move rfl) ?_
   refine oV (v_nilCheck rfl) ?_
   refine oV (v_fa rfl pt101_0_3 fd101_3) ?_
   refine oT (t_loadC (R := isv (q39.e)) ty30 rfl .here (fun _ _ h => h) ?_)
   refine oV (v_eql rfl rfl) ?_
   refine oV (v_move rfl) ?_
   refine rl_j (ι := Bool × GPar) (γ := Tok × Tok) (fun q91 g91 => [(70, isv (q91.1))]) (fun q91 g91 => [boxE b3 ((q91.2.l, q91.2.at_, (q91.2.m.name, q91.2.m.tagging, (TList.mk g91.1 q91.2.m.names), (TList.mk g91.2 q91.2.m.types), (Vh.mk g39.2.2 q91.2.m.nodes.length)), q91.2.e, q91.2.p) : ((List GTok) × Int × (Str × Int × (TList Str) × (TList Int) × Vh) × Int × Int)), tokE g91.1, tokE g91.2, vecE g39.2.2 (q91.2.m.nodes : List GNode)]) (.cons .here (.cons .here (.cons .here (.cons .here .nil)))) h 4 rfl (fun q91 g91 h => ?_) (fun J92 h hJ92 => ?_)
   ·
    refine rnf ?_
    refine w_condM h rfl (fun _ h => ?_) (fun _ h => ?_)
    ·
     refine wkf ?_
     refine w_block ?_
     refine wsr ?_
     refine oV (v_move rfl) ?_
     refine cal_inv h fun y97 hy97 h => ?_
     refine oT (t_call (r05_parser_now_w hy97) hT (.same rfl .nil) (.cons .here (.cons .here (.cons .here (.cons .here .nil)))) (fun R H' hR => ?_))
     obtain ⟨t98, t99, rfl, rfl⟩ := hR
     refine oT (t_alloc _ ze105 fun b100 => ?_)
     refine oT (t_storeC (y' := (y97.1 : GTok)) ty105 rfl rfl (fun _ _ h => h) .here rfl ?_)
     refine rl_upd (upd_imm 9 .here rfl) ?_
     refine rnf ?_
     refine wsr ?_
     refine oV (v_move rfl) ?_
     refine cal_inv h fun y101 hy101 h => ?_
     refine oT (t_call (r05_parser_kind_w hy101) hT (.same rfl (.same rfl .nil)) (.cons .here (.cons .here (.cons .here (.cons .here .nil)))) (fun R H' hR => ?_))
     obtain ⟨t102, t103, rfl, rfl⟩ := hR
     refine oV (v_assign rfl) ?_
     refine rnf ?_
     refine w_seq ?_
     refine wsr ?_
     refine oV (v_move rfl) ?_
     refine oV (v_nilCheck rfl) ?_
     refine oV (v_fa rfl pt101_0_3 fd101_3) ?_
     refine oT (t_loadC (R := isv (y101.2.e)) ty30 rfl .here (fun _ _ h => h) ?_)
     refine oV (v_eql rfl rfl) ?_
     refine oV (v_move rfl) ?_
     refine rl_j (ι := Bool) (γ := Unit) (fun q104 g104 => [(88, isv (q104))]) (fun q104 g104 => []) .nil h 8 rfl (fun q104 g104 h => ?_) (fun J105 h hJ105 => ?_)
     ·
      refine rnf ?_
      refine w_J (ι := GPar) (γ := Tok × Tok) (fun q107 g107 => []) (fun q107 g107 => [boxE b3 ((q107.l, q107.at_, (q107.m.name, q107.m.tagging, (TList.mk g107.1 q107.m.names), (TList.mk g107.2 q107.m.types), (Vh.mk g39.2.2 q107.m.nodes.length)), q107.e, q107.p) : ((List GTok) × Int × (Str × Int × (TList Str) × (TList Int) × Vh) × Int × Int)), tokE g107.1, tokE g107.2, vecE g39.2.2 (q107.m.nodes : List GNode)]) (.cons .here (.cons .here (.cons .here (.cons .here .nil)))) h (fun q107 g107 h => ?_) (fun J108 h hJ108 => ?_)
      ·
       refine wsr ?_
       refine oV (v_move rfl) ?_
       refine cal_inv h fun y112 hy112 h => ?_
       refine oT (t_call (r05_parser_must_w hy112) hT (.same rfl (.same rfl .nil)) (.cons .here (.cons .here (.cons .here (.cons .here .nil)))) (fun R H' hR => ?_))
       obtain ⟨t113, t114, rfl, rfl⟩ := hR
       refine rnf ?_
       refine wsr ?_
       refine oV (v_move rfl) ?_
       refine cal_inv h fun y115 hy115 h => ?_
       refine oT (t_call (r05_parser_typ_w fuel hy115) hT (.same rfl (.same rfl .nil)) (.cons .here (.cons .here (.cons .here (.cons .here .nil)))) (fun R H' hR => ?_))
       obtain ⟨t116, t117, v118, rfl, rfl⟩ := hR
       refine oV (v_assign rfl) ?_
       refine rnf ?_
       refine wsr ?_
       refine oV (v_move rfl) ?_
       refine oV (v_move rfl) ?_
       refine oV (v_nilCheck rfl) ?_
       refine oV (v_fa rfl pt101_0_2 fd101_2) ?_
       refine oV (v_fa rfl pt75_0_2 fd75_2) ?_
       refine oT (t_loadC (R := appv t116 (y115.2.m.names)) ty22 rfl .here isvT1 ?_)
       refine oV (v_move rfl) ?_
       refine oT (t_buildSlice (l := ([y101.1] : (List Str))) el22 (.cons rfl (fun _ _ h => h) .nil) rfl rfl ?_)
       refine asr_inv h fun q121 h => ?_
       refine oT (t_appC (l := y115.2.m.names) (m := ([y101.1] : (List Str))) ap22_22 rfl (fun _ _ h => h) rfl appv_isv (.there .here) q121 fun t120 => ?_)
       refine oV (v_nilCheck rfl) ?_
       refine oV (v_fa rfl pt101_0_2 fd101_2) ?_
       refine oV (v_fa rfl pt75_0_2 fd75_2) ?_
       refine oT (t_storeC (y' := ((y115.2.l, y115.2.at_, (y115.2.m.name, y115.2.m.tagging, (TList.mk t120 (y115.2.m.names ++ ([y101.1] : (List Str)))), (TList.mk t117 y115.2.m.types), (Vh.mk v118 y115.2.m.nodes.length)), y115.2.e, y115.2.p) : ((List GTok) × Int × (Str × Int × (TList Str) × (TList Int) × Vh) × Int × Int))) ty22 rfl rfl isvT2 (.there .here) rfl ?_)
       refine rnf ?_
       refine w_region ?_
       refine oV (v_move rfl) ?_
       refine oV (v_move rfl) ?_
       refine oV (v_nilCheck rfl) ?_
       refine oV (v_fa rfl pt101_0_2 fd101_2) ?_
       refine oV (v_fa rfl pt75_0_3 fd75_3) ?_
       refine oT (t_loadC (R := appv t117 (y115.2.m.types)) ty23 rfl .here isvT1 ?_)
       refine oV (v_move rfl) ?_
       refine oT (t_buildSlice (l := ([y115.1] : (List Int))) el23 (.cons rfl (fun _ _ h => h) .nil) rfl rfl ?_)
       refine asr_inv h fun q124 h => ?_
       refine oT (t_appC (l := y115.2.m.types) (m := ([y115.1] : (List Int))) ap23_23 rfl (fun _ _ h => h) rfl appv_isv (.there (.there .here)) q124 fun t123 => ?_)
       refine oV (v_nilCheck rfl) ?_
       refine oV (v_fa rfl pt101_0_2 fd101_2) ?_
       refine oV (v_fa rfl pt75_0_3 fd75_3) ?_
       refine oT (t_storeC (y' := ((y115.2.l, y115.2.at_, (y115.2.m.name, y115.2.m.tagging, (TList.mk t120 (y115.2.m.names ++ ([y101.1] : (List Str)))), (TList.mk t123 (y115.2.m.types ++ ([y115.1] : (List Int)))), (Vh.mk v118 y115.2.m.nodes.length)), y115.2.e, y115.2.p) : ((List GTok) × Int × (Str × Int × (TList Str) × (TList Int) × Vh) × Int × Int))) ty23 rfl rfl isvT2 (.there .here) rfl ?_)
       refine rl_nil ?_
       refine fin_block ?_
       exact hL40 _ (t120, t123, v118) h _ (join_imp 50 rfl rfl mod_nil (.cons .here (.cons (.there .here) (.cons .here (.cons .here (.cons .here .nil))))))
      ·
       refine w_condM h rfl (fun _ h => ?_) (fun _ h => ?_)
       ·
        refine w_region ?_
        refine oV (v_move rfl) ?_
        refine oV (v_loadI ty105 rfl) ?_
        refine cal_inv h fun y109 hy109 h => ?_
        refine oT (t_call (r05_parser_fail_w hy109) hT (.same rfl (.same rfl (.same rfl .nil))) (.cons .here (.cons .here (.cons .here (.cons .here .nil)))) (fun R H' hR => ?_))
        obtain ⟨t110, t111, rfl, rfl⟩ := hR
        refine rl_nil ?_
        exact hJ108 _ (t110, t111) h _ (join_imp 3 rfl rfl mod_nil (.cons .here (.cons .here (.cons .here (.cons .here (.cons .here .nil))))))
       ·
        refine w_skip ?_
        exact hJ108 _ (t102, t103) h _ (join_imp 0 rfl rfl mod_nil (.cons .here (.cons .here (.cons .here (.cons .here (.cons .here .nil))))))
     ·
      refine rl_condM (j := 80) h rfl (fun g106 h => ?_) (fun g106 h => ?_)
      ·
       refine op_take rfl rfl (dj := 80) rfl g106 (OpV.t (v_move rfl) ?_)
       refine op_take rfl rfl (dj := 80) rfl g106 (OpV.t (v_nilCheck rfl) ?_)
       refine op_take rfl rfl (dj := 80) rfl g106 (OpV.t (v_fa rfl pt101_0_2 fd101_2) ?_)
       refine op_take rfl rfl (dj := 80) rfl g106 (OpV.t (v_fa rfl pt75_0_2 fd75_2) ?_)
       refine op_take rfl rfl (dj := 80) rfl g106 (t_loadC (R := appv t102 (y101.2.m.names)) ty22 rfl .here isvT1 ?_)
       refine op_take rfl rfl (dj := 80) rfl g106 (OpV.t (v_ln (l := y101.2.m.names) rfl appv_isv sl22) ?_)
       refine op_take rfl rfl (dj := 80) rfl g106 (OpV.t (v_geq rfl rfl) ?_)
       refine oV (v_pick_t rfl g106 rfl) ?_
       exact hJ105 _ () h _ (join_imp 8 rfl rfl (mod_cons (j := 88) rfl (fun _ _ h => h) mod_nil) (.cons .here (.cons .here (.cons .here (.cons .here (.cons .here .nil))))))
      ·
       refine op_pass rfl (dj := 80) rfl g106 ?_
       refine op_pass rfl (dj := 80) rfl g106 ?_
       refine op_pass rfl (dj := 80) rfl g106 ?_
       refine op_pass rfl (dj := 80) rfl g106 ?_
       refine op_pass rfl (dj := 80) rfl g106 ?_
       refine op_pass rfl (dj := 80) rfl g106 ?_
       refine op_pass rfl (dj := 80) rfl g106 ?_
       refine oV (v_pick_f rfl g106 rfl) ?_
       exact hJ105 _ () h _ (join_imp 8 rfl rfl (mod_cons (j := 88) rfl (fun _ _ h => h) mod_nil) (.cons .here (.cons .here (.cons .here (.cons .here (.cons .here .nil))))))
    ·
     refine w_exit ?_
     refine exi_nxt ?_
     refine eL40 _ _ ?_
     refine exi_block ?_
     refine fin_nxt ?_
     refine w_seq ?_
     refine wsr ?_
     refine oV (v_move rfl) ?_
     refine oV (v_nilCheck rfl) ?_
     refine oV (v_fa rfl pt101_0_3 fd101_3) ?_
     refine oT (t_loadC (R := isv (q91.2.e)) ty30 rfl .here (fun _ _ h => h) ?_)
     refine oV (v_eql rfl rfl) ?_
     refine oV (v_move rfl) ?_
     refine rl_j (ι := Bool × GPar) (γ := Tok × Tok) (fun q125 g125 => [(130, isv (q125.1))]) (fun q125 g125 => [boxE b3 ((q125.2.l, q125.2.at_, (q125.2.m.name, q125.2.m.tagging, (TList.mk g125.1 q125.2.m.names), (TList.mk g125.2 q125.2.m.types), (Vh.mk g39.2.2 q125.2.m.nodes.length)), q125.2.e, q125.2.p) : ((List GTok) × Int × (Str × Int × (TList Str) × (TList Int) × Vh) × Int × Int)), tokE g125.1, tokE g125.2, vecE g39.2.2 (q125.2.m.nodes : List GNode)]) (.cons .here (.cons .here (.cons .here (.cons .here .nil)))) h 5 rfl (fun q125 g125 h => ?_) (fun J126 h hJ126 => ?_)
     ·
      refine rnf ?_
      refine w_J (ι := GPar) (γ := Tok × Tok) (fun q131 g131 => []) (fun q131 g131 => [boxE b3 ((q131.l, q131.at_, (q131.m.name, q131.m.tagging, (TList.mk g131.1 q131.m.names), (TList.mk g131.2 q131.m.types), (Vh.mk g39.2.2 q131.m.nodes.length)), q131.e, q131.p) : ((List GTok) × Int × (Str × Int × (TList Str) × (TList Int) × Vh) × Int × Int)), tokE g131.1, tokE g131.2, vecE g39.2.2 (q131.m.nodes : List GNode)]) (.cons .here (.cons .here (.cons .here (.cons .here .nil)))) h (fun q131 g131 h => ?_) (fun J132 h hJ132 => ?_)
      ·
       refine w_seq ?_
       refine wsr ?_
       refine oV (v_move rfl) ?_
       refine oV (v_nilCheck rfl) ?_
       refine oV (v_fa rfl pt101_0_3 fd101_3) ?_
       refine oT (t_loadC (R := isv (q131.e)) ty30 rfl .here (fun _ _ h => h) ?_)
       refine oV (v_neq rfl rfl) ?_
       refine rnf ?_
       refine w_condM h rfl (fun _ h => ?_) (fun _ h => ?_)
       ·
        refine w_seq ?_
        refine w_pinN 8 .here rfl (fun o139 hn140 => ?_)
        refine w_regionD (.v 0 (.v 1 (.v 2 (.v 3 (.v 4 (.v 5 (.v 6 (.v 7 (.v 8 (.t 9 (.v 10 (.v 11 .nil)))))))))))) moOrd (by kernel_rfl) ?_
        refine rd_v rfl (v_build (z := (GMod.mk (Str.mk []) (0 : Int) ([] : (List Str)) ([] : (List Int)) ([] : (List GNode)))) rfl bu75 ze75 .nil) ?_
        refine rd_v rfl (v_move rfl) ?_
        refine rd_v rfl (v_nilCheckP rfl) ?_
        refine rd_v rfl (v_fp rfl pt101_0_4 fd101_4) ?_
        refine rd_v rfl (v_lpC (R := isv (q131.p)) ty3 rfl (List.Mem.head _) (fun _ _ h => h)) ?_
        refine rd_v rfl (v_move rfl) ?_
        refine rd_v rfl (v_nilCheckP rfl) ?_
        refine rd_v rfl (v_fp rfl pt101_0_3 fd101_3) ?_
        refine rd_v rfl (v_lpC (R := isv (q131.e)) ty30 rfl (List.Mem.head _) (fun _ _ h => h)) ?_
        refine rd_t rfl rfl (t_storeC (y' := ((GMod.mk (Str.mk []) (0 : Int) ([] : (List Str)) ([] : (List Int)) ([] : (List GNode))) : GMod)) ty75 rfl rfl (fun _ _ h => h) (.there (.there (.there .here))) rfl ?_)
        refine rd_v rfl (v_assign rfl) ?_
        refine rd_v rfl (v_assign rfl) ?_
        refine rd_nil ?_
        refine fin_unpinN 8 hn140 rfl ?_
        refine fin_nxt ?_
        refine w_ret ?_
        refine ret_nxt ?_
        refine ret_post (.cell rfl (.there .here) ty75 (.tmp rfl (.tmp rfl .nil))) .nil ?_
        obtain rfl := Option.some.inj h
        exact ⟨rfl, rfl⟩
       ·
        refine wkf ?_
        refine wsr ?_
        refine oV (v_move rfl) ?_
        refine oV (v_nilCheck rfl) ?_
        refine oV (v_fa rfl pt101_0_2 fd101_2) ?_
        refine rl_upd (upd_frzB (y := ((q131.l, q131.at_, (q131.m.name, q131.m.tagging, (TList.mk g131.1 q131.m.names), (TList.mk g131.2 q131.m.types), q131.m.nodes), q131.e, q131.p) : ((List GTok) × Int × (Str × Int × (TList Str) × (TList Int) × (List GNode)) × Int × Int))) (.there (.there (.there .here))) .here (fun S hv => (Cv.pair Cv.id (Cv.pair Cv.id (Cv.pair (Cv.pair Cv.id (Cv.pair Cv.id (Cv.pair Cv.id (Cv.pair Cv.id (Cv.vh hv (by first | rfl | simp)))))) (Cv.pair Cv.id Cv.id)))))) ?_
        refine rl_upd (upd_slot (R' := ptrv b3 ((Fld.id (((List GTok) × Int × (Str × Int × (TList Str) × (TList Int) × (List GNode)) × Int × Int))).comp pt101_1_2)) 151 rfl (fun _ _ h => h)) ?_
        refine oT (t_loadC (y := ((q131.l, q131.at_, (q131.m.name, q131.m.tagging, (TList.mk g131.1 q131.m.names), (TList.mk g131.2 q131.m.types), q131.m.nodes), q131.e, q131.p) : ((List GTok) × Int × (Str × Int × (TList Str) × (TList Int) × (List GNode)) × Int × Int))) (R := isv (((q131.m.name, q131.m.tagging, (TList.mk g131.1 q131.m.names), (TList.mk g131.2 q131.m.types), q131.m.nodes)) : ((Str × Int × (TList Str) × (TList Int) × (List GNode))))) ty75 rfl .here (by exact (fun _ _ h => h)) ?_)
        refine rl_upd (upd_slot (R' := isv (q131.m)) 152 rfl (Cv.isv rfl fun S => (fun cs h => GMod.cv (x := q131.m) cs (((Cv.pair Cv.id (Cv.pair Cv.id (Cv.pair Cv.tl (Cv.pair Cv.tl Cv.id)))) : Cv S ((q131.m.name, q131.m.tagging, (TList.mk g131.1 q131.m.names), (TList.mk g131.2 q131.m.types), q131.m.nodes) : (Str × Int × (TList Str) × (TList Int) × (List GNode))) (GMod.to q131.m)) cs h)))) ?_
        refine oT (t_storeC (y' := (q131.m : GMod)) ty75 rfl rfl (fun _ _ h => h) (.there (.there (.there .here))) rfl ?_)
        refine oV (v_assign rfl) ?_
        refine oV (v_assign rfl) ?_
        refine rnf ?_
        refine w_ret ?_
        refine ret_post (.cell rfl .here ty75 (.tmp rfl (.tmp rfl .nil))) .nil ?_
        obtain rfl := Option.some.inj h
        exact ⟨rfl, rfl⟩
      ·
       refine w_condM h rfl (fun _ h => ?_) (fun _ h => ?_)
       ·
        refine w_region ?_
        refine oV (v_move rfl) ?_
        refine oV (v_move rfl) ?_
        refine cal_inv h fun y133 hy133 h => ?_
        refine oT (t_call (r05_parser_now_w hy133) hT (.same rfl .nil) (.cons .here (.cons .here (.cons .here (.cons .here .nil)))) (fun R H' hR => ?_))
        obtain ⟨t134, t135, rfl, rfl⟩ := hR
        refine cal_inv h fun y136 hy136 h => ?_
        refine oT (t_call (r05_parser_fail_w hy136) hT (.same rfl (.same rfl (.same rfl .nil))) (.cons .here (.cons .here (.cons .here (.cons .here .nil)))) (fun R H' hR => ?_))
        obtain ⟨t137, t138, rfl, rfl⟩ := hR
        refine rl_nil ?_
        exact hJ132 _ (t137, t138) h _ (join_imp 4 rfl rfl mod_nil (.cons .here (.cons .here (.cons .here (.cons .here (.cons .here .nil))))))
       ·
        refine w_skip ?_
        exact hJ132 _ (g125.1, g125.2) h _ (join_imp 0 rfl rfl mod_nil (.cons .here (.cons .here (.cons .here (.cons .here (.cons .here .nil))))))
     ·
      refine rl_condM (j := 125) h rfl (fun g127 h => ?_) (fun g127 h => ?_)
      ·
       refine op_take rfl rfl (dj := 125) rfl g127 (OpV.t (v_move rfl) ?_)
       refine cal_inv h fun y128 hy128 h => ?_
       refine op_take rfl rfl (dj := 125) rfl g127 (t_call (r05_parser_now_w hy128) hT (.same rfl .nil) (.cons .here (.cons .here (.cons .here (.cons .here .nil)))) (fun R H' hR => ?_))
       obtain ⟨t129, t130, rfl, rfl⟩ := hR
       refine op_take rfl rfl (dj := 125) rfl g127 (OpV.t (v_field GTok.f0 rfl fd105_0 rfl) ?_)
       refine op_take rfl rfl (dj := 125) rfl g127 (OpV.t (v_neq rfl rfl) ?_)
       refine oV (v_pick_t rfl g127 rfl) ?_
       exact hJ126 _ (t129, t130) h _ (join_imp 5 rfl rfl (mod_cons (j := 130) rfl (fun _ _ h => h) mod_nil) (.cons .here (.cons .here (.cons .here (.cons .here (.cons .here .nil))))))
      ·
       refine op_pass rfl (dj := 125) rfl g127 ?_
       refine op_pass rfl (dj := 125) rfl g127 ?_
       refine op_pass rfl (dj := 125) rfl g127 ?_
       refine op_pass rfl (dj := 125) rfl g127 ?_
       refine oV (v_pick_f rfl g127 rfl) ?_
       exact hJ126 _ (g91.1, g91.2) h _ (join_imp 5 rfl rfl (mod_cons (j := 130) rfl (fun _ _ h => h) mod_nil) (.cons .here (.cons .here (.cons .here (.cons .here (.cons .here .nil))))))
   ·
    refine rl_condM (j := 66) h rfl (fun g93 h => ?_) (fun g93 h => ?_)
    ·
     refine op_take rfl rfl (dj := 66) rfl g93 (OpV.t (v_move rfl) ?_)
     refine cal_inv h fun y94 hy94 h => ?_
     refine op_take rfl rfl (dj := 66) rfl g93 (t_call (r05_parser_is_w hy94) hT (.same rfl (.same rfl .nil)) (.cons .here (.cons .here (.cons .here (.cons .here .nil)))) (fun R H' hR => ?_))
     obtain ⟨t95, t96, rfl, rfl⟩ := hR
     refine op_take rfl rfl (dj := 66) rfl g93 (OpV.t (v_not rfl) ?_)
     refine oV (v_pick_t rfl g93 rfl) ?_
     exact hJ92 _ (t95, t96) h _ (join_imp 4 rfl rfl (mod_cons (j := 70) rfl (fun _ _ h => h) mod_nil) (.cons .here (.cons .here (.cons .here (.cons .here (.cons .here .nil))))))
    ·
     refine op_pass rfl (dj := 66) rfl g93 ?_
     refine op_pass rfl (dj := 66) rfl g93 ?_
     refine op_pass rfl (dj := 66) rfl g93 ?_
     refine oV (v_pick_f rfl g93 rfl) ?_
     exact hJ92 _ (g39.1, g39.2.1) h _ (join_imp 4 rfl rfl (mod_cons (j := 70) rfl (fun _ _ h => h) mod_nil) (.cons .here (.cons .here (.cons .here (.cons .here (.cons .here .nil))))))
  ·
   refine w_block ?_
   refine wsr ?_
   refine oV (v_move rfl) ?_
   refine cal_inv h fun y15 hy15 h => ?_
   refine oT (t_call (r05_parser_is_w hy15) hT (.same rfl (.same rfl .nil)) (.cons .here (.cons .here (.cons .here (.cons .here .nil)))) (fun R H' hR => ?_))
   obtain ⟨t16, t17, rfl, rfl⟩ := hR
   refine oV (v_assign rfl) ?_
   refine rnf ?_
   refine w_condM h rfl (fun _ h => ?_) (fun _ h => ?_)
   ·
    refine w_region ?_
    refine oV (v_move rfl) ?_
    refine cal_inv h fun y18 hy18 h => ?_
    refine oT (t_call (r05_parser_must_w hy18) hT (.same rfl (.same rfl .nil)) (.cons .here (.cons .here (.cons .here (.cons .here .nil)))) (fun R H' hR => ?_))
    obtain ⟨t19, t20, rfl, rfl⟩ := hR
    refine rl_nil ?_
    refine fin_block ?_
    exact hJ14 _ (t19, t20) h _ (join_imp 5 rfl rfl mod_nil (.cons .here (.cons .here (.cons .here (.cons .here (.cons .here .nil))))))
   ·
    refine wsr ?_
    refine oV (v_move rfl) ?_
    refine cal_inv h fun y21 hy21 h => ?_
    refine oT (t_call (r05_parser_is_w hy21) hT (.same rfl (.same rfl .nil)) (.cons .here (.cons .here (.cons .here (.cons .here .nil)))) (fun R H' hR => ?_))
    obtain ⟨t22, t23, rfl, rfl⟩ := hR
    refine oV (v_assign rfl) ?_
    refine rnf ?_
    refine w_condM h rfl (fun _ h => ?_) (fun _ h => ?_)
    ·
     refine wsr ?_
     refine oV (v_move rfl) ?_
     refine oV (v_nilCheck rfl) ?_
     refine oV (v_fa rfl pt101_0_2 fd101_2) ?_
     refine oV (v_fa rfl pt75_0_1 fd75_1) ?_
     refine oT (t_storeC (y' := ((y21.2.l, y21.2.at_, (y21.2.m.name, (1 : Int), (TList.mk t22 y21.2.m.names), (TList.mk t23 y21.2.m.types), (Vh.mk none y21.2.m.nodes.length)), y21.2.e, y21.2.p) : ((List GTok) × Int × (Str × Int × (TList Str) × (TList Int) × Vh) × Int × Int))) ty3 rfl rfl (fun _ _ h => h) .here rfl ?_)
     refine rnf ?_
     refine w_region ?_
     refine oV (v_move rfl) ?_
     refine cal_inv h fun y24 hy24 h => ?_
     refine oT (t_call (r05_parser_must_w hy24) hT (.same rfl (.same rfl .nil)) (.cons .here (.cons .here (.cons .here (.cons .here .nil)))) (fun R H' hR => ?_))
     obtain ⟨t25, t26, rfl, rfl⟩ := hR
     refine rl_nil ?_
     refine fin_block ?_
     exact hJ14 _ (t25, t26) h _ (join_imp 12 rfl rfl mod_nil (.cons .here (.cons .here (.cons .here (.cons .here (.cons .here .nil))))))
    ·
     refine wsr ?_
     refine oV (v_move rfl) ?_
     refine cal_inv h fun y27 hy27 h => ?_
     refine oT (t_call (r05_parser_is_w hy27) hT (.same rfl (.same rfl .nil)) (.cons .here (.cons .here (.cons .here (.cons .here .nil)))) (fun R H' hR => ?_))
     obtain ⟨t28, t29, rfl, rfl⟩ := hR
     refine oV (v_assign rfl) ?_
     refine rnf ?_
     refine w_condM h rfl (fun _ h => ?_) (fun _ h => ?_)
     ·
      refine wsr ?_
      refine oV (v_move rfl) ?_
      refine oV (v_nilCheck rfl) ?_
      refine oV (v_fa rfl pt101_0_2 fd101_2) ?_
      refine oV (v_fa rfl pt75_0_1 fd75_1) ?_
      refine oT (t_storeC (y' := ((y27.2.l, y27.2.at_, (y27.2.m.name, (2 : Int), (TList.mk t28 y27.2.m.names), (TList.mk t29 y27.2.m.types), (Vh.mk none y27.2.m.nodes.length)), y27.2.e, y27.2.p) : ((List GTok) × Int × (Str × Int × (TList Str) × (TList Int) × Vh) × Int × Int))) ty3 rfl rfl (fun _ _ h => h) .here rfl ?_)
      refine rnf ?_
      refine w_region ?_
      refine oV (v_move rfl) ?_
      refine cal_inv h fun y30 hy30 h => ?_
      refine oT (t_call (r05_parser_must_w hy30) hT (.same rfl (.same rfl .nil)) (.cons .here (.cons .here (.cons .here (.cons .here .nil)))) (fun R H' hR => ?_))
      obtain ⟨t31, t32, rfl, rfl⟩ := hR
      refine rl_nil ?_
      refine fin_block ?_
      exact hJ14 _ (t31, t32) h _ (join_imp 15 rfl rfl mod_nil (.cons .here (.cons .here (.cons .here (.cons .here (.cons .here .nil))))))
     ·
      refine w_skip ?_
      refine fin_block ?_
      exact hJ14 _ (t28, t29) h _ (join_imp 9 rfl rfl mod_nil (.cons .here (.cons .here (.cons .here (.cons .here (.cons .here .nil))))))

end Go.Proofs.YtajbipkppngccaaDoor


namespace Go.Proofs.YtajbipkppngccaaDoor
open Go.Sy
set_option maxRecDepth 4000
theorem r07_Find_w : ∀ {a_m : GMod} {a_name : Str} {r : Int}, r07_Find a_m a_name = some r → Ctr Tryd.prog 84 [isv (a_m), isv (a_name)] [] (fun R H => R = oneOf [isv (r)] ∧ H = []) := by
 intro a_m a_name r h
 unfold r07_Find at h
 refine spec_intro Tryd.func84 rfl (by decide +kernel) (by rfl) fun w0 S0 hT => ?_
 refine wsr ?_
 refine oT (t_boxIC (y := a_m) rfl (fun _ _ h => h) ?_)
 refine oV (v_assign rfl) ?_
 refine rnf ?_
 refine w_seq ?_
 refine wsr ?_
 refine oV (v_assign rfl) ?_
 refine rnf ?_
 refine w_block ?_
 refine w_lp (ι := Int) (γ := Unit) (fun q1 g1 => [(5, isv (q1))]) (fun q1 g1 => []) h () (mod_cons (j := 5) rfl (fun _ _ h => h) mod_nil) .nil (fun L2 q1 g1 Q7 h hL2 eL2 rL2 => ?_)
 refine w_seq ?_
 refine wsr ?_
 refine oV (v_move rfl) ?_
 refine oV (v_fi rfl GMod.f2 fd75_2 rfl (z := a_m.names)) ?_
 refine oV (v_loadI ty22 rfl) ?_
 refine oV (v_ln (l := a_m.names) rfl (fun _ _ h => h) sl22) ?_
 refine oV (v_lss rfl rfl) ?_
 refine rnf ?_
 refine w_condM h rfl (fun _ h => ?_) (fun _ h => ?_)
 ·
  refine wkf ?_
  refine w_seq ?_
  refine w_block ?_
  refine wsr ?_
  refine oV (v_fi rfl GMod.f2 fd75_2 rfl (z := a_m.names)) ?_
  refine oV (v_loadI ty22 rfl) ?_
  refine oV (v_move rfl) ?_
  refine cal_inv h fun y5 hy5 h => ?_
  refine oV (v_ix (l := a_m.names) rfl (fun _ _ h => h) rfl sl22 hy5) ?_
  refine oV (v_loadI ty9 rfl) ?_
  refine oV (v_move rfl) ?_
  refine oV (v_eqA eq9 rfl rfl) ?_
  refine rnf ?_
  refine w_condM h rfl (fun _ h => ?_) (fun _ h => ?_)
  ·
   refine wsr ?_
   refine oV (v_move rfl) ?_
   refine oV (v_assign rfl) ?_
   refine rnf ?_
   refine w_ret ?_
   refine ret_block ?_
   refine ret_nxt ?_
   refine rL2 _ ?_
   refine ret_block ?_
   refine ret_nxt ?_
   refine ret_post (.tmp rfl .nil) .nil ?_
   obtain rfl := Option.some.inj h
   exact ⟨rfl, rfl⟩
  ·
   refine w_skip ?_
   refine fin_block ?_
   refine fin_nxt ?_
   refine w_region ?_
   refine oV (v_move rfl) ?_
   refine ck_inv h fun q6 h => ?_
   refine oV (v_add rfl rfl q6) ?_
   refine oV (v_assign rfl) ?_
   refine rl_nil ?_
   exact hL2 _ () h _ (join_imp 16 rfl rfl (mod_cons (j := 5) rfl (fun _ _ h => h) mod_nil) .nil)
 ·
  refine w_exit ?_
  refine exi_nxt ?_
  refine eL2 _ _ ?_
  refine exi_block ?_
  refine fin_nxt ?_
  refine wsr ?_
  refine oV (v_assign rfl) ?_
  refine rnf ?_
  refine w_ret ?_
  refine ret_post (.tmp rfl .nil) .nil ?_
  obtain rfl := Option.some.inj h
  exact ⟨rfl, rfl⟩


theorem h_In_int_w : ∀ {a_l : (List Int)} {a_x : Int} {r : Bool}, h_In_int a_l a_x = some r → Ctr Tryd.prog 24 [isv (a_l), isv (a_x)] [] (fun R H => R = oneOf [isv (r)] ∧ H = []) := by
 intro a_l a_x r h
 unfold h_In_int at h
 refine spec_intro Tryd.func24 rfl (by decide +kernel) (by rfl) fun w0 S0 hT => ?_
 refine wsr ?_
 refine oV (v_assign rfl) ?_
 refine rnf ?_
 refine w_seq ?_
 refine wsr ?_
 refine oV (v_assign rfl) ?_
 refine rnf ?_
 refine w_block ?_
 refine w_lp (ι := Int) (γ := Unit) (fun q1 g1 => [(5, isv (q1))]) (fun q1 g1 => []) h () (mod_cons (j := 5) rfl (fun _ _ h => h) mod_nil) .nil (fun L2 q1 g1 Q7 h hL2 eL2 rL2 => ?_)
 refine w_seq ?_
 refine wsr ?_
 refine oV (v_move rfl) ?_
 refine oV (v_move rfl) ?_
 refine oV (v_ln (l := a_l) rfl (fun _ _ h => h) sl23) ?_
 refine oV (v_lss rfl rfl) ?_
 refine rnf ?_
 refine w_condM h rfl (fun _ h => ?_) (fun _ h => ?_)
 ·
  refine wkf ?_
  refine w_seq ?_
  refine w_block ?_
  refine wsr ?_
  refine oV (v_move rfl) ?_
  refine oV (v_move rfl) ?_
  refine cal_inv h fun y5 hy5 h => ?_
  refine oV (v_ix (l := a_l) rfl (fun _ _ h => h) rfl sl23 hy5) ?_
  refine oV (v_loadI ty3 rfl) ?_
  refine oV (v_move rfl) ?_
  refine oV (v_eql rfl rfl) ?_
  refine rnf ?_
  refine w_condM h rfl (fun _ h => ?_) (fun _ h => ?_)
  ·
   refine wsr ?_
   refine oV (v_assign rfl) ?_
   refine rnf ?_
   refine w_ret ?_
   refine ret_block ?_
   refine ret_nxt ?_
   refine rL2 _ ?_
   refine ret_block ?_
   refine ret_nxt ?_
   refine ret_post (.tmp rfl .nil) .nil ?_
   obtain rfl := Option.some.inj h
   exact ⟨rfl, rfl⟩
  ·
   refine w_skip ?_
   refine fin_block ?_
   refine fin_nxt ?_
   refine w_region ?_
   refine oV (v_move rfl) ?_
   refine ck_inv h fun q6 h => ?_
   refine oV (v_add rfl rfl q6) ?_
   refine oV (v_assign rfl) ?_
   refine rl_nil ?_
   exact hL2 _ () h _ (join_imp 14 rfl rfl (mod_cons (j := 5) rfl (fun _ _ h => h) mod_nil) .nil)
 ·
  refine w_exit ?_
  refine exi_nxt ?_
  refine eL2 _ _ ?_
  refine exi_block ?_
  refine fin_nxt ?_
  refine wsr ?_
  refine oV (v_assign rfl) ?_
  refine rnf ?_
  refine w_ret ?_
  refine ret_post (.tmp rfl .nil) .nil ?_
  obtain rfl := Option.some.inj h
  exact ⟨rfl, rfl⟩


def r07_uses_C (f' : GMod → Int → Int → (List Int) → Option ((List Int) × Bool)) : Prop :=
 ∀ {a_m : GMod} {a_node : Int} {a_depth : Int} {a_l : (List Int)} {t_a_l : Tok} {r : (List Int) × Bool}, f' a_m a_node a_depth a_l = some r → Ctr Tryd.prog 82 [isv (a_m), isv (a_node), isv (a_depth), appv t_a_l (a_l)] [tokE t_a_l] (fun R H => ∃ u1 : Tok, R = oneOf [appv u1 (r.1), isv (r.2)] ∧ H = [tokE u1])
theorem r07_uses_w0 {r07_uses' : GMod → Int → Int → (List Int) → Option ((List Int) × Bool)} (h_r07_uses : r07_uses_C r07_uses') : ∀ {a_m : GMod} {a_node : Int} {a_depth : Int} {a_l : (List Int)} {t_a_l : Tok} {r : (List Int) × Bool}, r07_uses_F r07_uses' a_m a_node a_depth a_l = some r → Ctr Tryd.prog 82 [isv (a_m), isv (a_node), isv (a_depth), appv t_a_l (a_l)] [tokE t_a_l] (fun R H => ∃ u1 : Tok, R = oneOf [appv u1 (r.1), isv (r.2)] ∧ H = [tokE u1]) := by
 intro a_m a_node a_depth a_l t_a_l r h
 unfold r07_uses_F at h
 refine spec_intro Tryd.func82 rfl (by decide +kernel) (by rfl) fun w0 S0 hT => ?_
 refine wsr ?_
 refine oT (t_boxIC (y := a_m) rfl (fun _ _ h => h) ?_)
 refine oV (v_assign rfl) ?_
 refine oV (v_assign rfl) ?_
 refine rnf ?_
 refine w_seq ?_
 refine wsr ?_
 refine oV (v_move rfl) ?_
 refine oV (v_lss rfl rfl) ?_
 refine oV (v_move rfl) ?_
 refine rl_j (ι := Bool) (γ := Unit) (fun q1 g1 => [(24, isv (q1))]) (fun q1 g1 => []) .nil h 6 rfl (fun q1 g1 h => ?_) (fun J2 h hJ2 => ?_)
 ·
  refine oV (v_move rfl) ?_
  refine rl_j (ι := Bool) (γ := Unit) (fun q4 g4 => [(28, isv (q4))]) (fun q4 g4 => []) .nil h 3 rfl (fun q4 g4 h => ?_) (fun J5 h hJ5 => ?_)
  ·
   refine rnf ?_
   refine w_condM h rfl (fun _ h => ?_) (fun _ h => ?_)
   ·
    refine wsr ?_
    refine oV (v_move rfl) ?_
    refine oV (v_assign rfl) ?_
    refine oV (v_assign rfl) ?_
    refine rnf ?_
    refine w_ret ?_
    refine ret_nxt ?_
    refine ret_post (.tmp rfl (.tmp rfl .nil)) (.cons .here .nil) ?_
    obtain rfl := Option.some.inj h
    exact ⟨t_a_l, rfl, rfl⟩
   ·
    refine wkf ?_
    refine wsr ?_
    refine oV (v_fi rfl GMod.f4 fd75_4 rfl (z := a_m.nodes)) ?_
    refine oV (v_loadI ty73 rfl) ?_
    refine oV (v_move rfl) ?_
    refine cal_inv h fun y7 hy7 h => ?_
    refine oV (v_ix (l := a_m.nodes) rfl (fun _ _ h => h) rfl sl73 hy7) ?_
    refine oV (v_loadI ty133 rfl) ?_
    refine oT (t_alloc _ ze133 fun b8 => ?_)
    refine oT (t_storeC (y' := (y7 : GNode)) ty133 rfl rfl (fun _ _ h => h) .here rfl ?_)
    refine rl_upd (upd_imm 10 .here rfl) ?_
    refine rnf ?_
    refine w_seq ?_
    refine wsr ?_
    refine oV (v_fi rfl GNode.f0 fd133_0 rfl (z := y7.kind)) ?_
    refine oV (v_loadI ty3 rfl) ?_
    refine oV (v_eql rfl rfl) ?_
    refine rnf ?_
    refine w_condM h rfl (fun _ h => ?_) (fun _ h => ?_)
    ·
     refine wsr ?_
     refine oV (v_loadI ty75 rfl) ?_
     refine oV (v_fi rfl GNode.f1 fd133_1 rfl (z := y7.name)) ?_
     refine oV (v_loadI ty9 rfl) ?_
     refine cal_inv h fun y9 hy9 h => ?_
     refine oT (t_call (r07_Find_w hy9) hT (.same rfl (.same rfl .nil)) .nil (fun R H' hR => ?_))
     obtain ⟨rfl, rfl⟩ := hR
     refine oV (v_assign rfl) ?_
     refine rnf ?_
     refine w_seq ?_
     refine wsr ?_
     refine oV (v_move rfl) ?_
     refine oV (v_lss rfl rfl) ?_
     refine rnf ?_
     refine w_condM h rfl (fun _ h => ?_) (fun _ h => ?_)
     ·
      refine wsr ?_
      refine oV (v_move rfl) ?_
      refine oV (v_assign rfl) ?_
      refine oV (v_assign rfl) ?_
      refine rnf ?_
      refine w_ret ?_
      refine ret_nxt ?_
      refine ret_nxt ?_
      refine ret_post (.tmp rfl (.tmp rfl .nil)) (.cons .here .nil) ?_
      obtain rfl := Option.some.inj h
      exact ⟨t_a_l, rfl, rfl⟩
     ·
      refine wkf ?_
      refine w_seq ?_
      refine wsr ?_
      refine oV (v_move rfl) ?_
      refine oV (v_move rfl) ?_
      refine cal_inv h fun y10 hy10 h => ?_
      refine oT (t_call (h_In_int_w hy10) hT (.cons rfl appv_isv (.same rfl .nil)) .nil (fun R H' hR => ?_))
      obtain ⟨rfl, rfl⟩ := hR
      refine oV (v_not rfl) ?_
      refine rnf ?_
      refine w_J (ι := (List Int)) (γ := Tok) (fun q11 g11 => [(3, appv g11 (q11))]) (fun q11 g11 => [tokE g11]) (.cons .here .nil) h (fun q11 g11 h => ?_) (fun J12 h hJ12 => ?_)
      ·
       refine wsr ?_
       refine oV (v_move rfl) ?_
       refine oV (v_assign rfl) ?_
       refine oV (v_assign rfl) ?_
       refine rnf ?_
       refine w_ret ?_
       refine ret_nxt ?_
       refine ret_post (.tmp rfl (.tmp rfl .nil)) (.cons .here .nil) ?_
       obtain rfl := Option.some.inj h
       exact ⟨g11, rfl, rfl⟩
      ·
       refine w_condM h rfl (fun _ h => ?_) (fun _ h => ?_)
       ·
        refine w_region ?_
        refine oV (v_move rfl) ?_
        refine oV (v_move rfl) ?_
        refine oT (t_buildSlice (l := ([y9] : (List Int))) el23 (.cons rfl (fun _ _ h => h) .nil) rfl rfl ?_)
        refine asr_inv h fun q15 h => ?_
        refine oT (t_appC (l := a_l) (m := ([y9] : (List Int))) ap23_23 rfl (fun _ _ h => h) rfl appv_isv .here q15 fun t14 => ?_)
        refine oV (v_assign rfl) ?_
        refine rl_nil ?_
        exact hJ12 _ (t14) h _ (join_imp 5 rfl rfl (mod_cons (j := 3) rfl (fun _ _ h => h) mod_nil) (.cons .here .nil))
       ·
        refine w_skip ?_
        exact hJ12 _ (t_a_l) h _ (join_imp 0 rfl rfl (mod_cons (j := 3) rfl (fun _ _ h => h) mod_nil) (.cons .here .nil))
    ·
     refine wkf ?_
     refine wsr ?_
     refine oV (v_assign rfl) ?_
     refine rnf ?_
     refine w_seq ?_
     refine wsr ?_
     refine oV (v_assign rfl) ?_
     refine rnf ?_
     refine w_block ?_
     refine w_lp (ι := (List Int) × Bool × Int) (γ := Tok) (fun q16 g16 => [(3, appv g16 (q16.1)), (12, isv (q16.2.1)), (13, isv (q16.2.2))]) (fun q16 g16 => [tokE g16]) h (t_a_l) (mod_cons (j := 3) rfl (fun _ _ h => h) (mod_cons (j := 12) rfl (fun _ _ h => h) (mod_cons (j := 13) rfl (fun _ _ h => h) mod_nil))) (.cons .here .nil) (fun L17 q16 g16 Q44 h hL17 eL17 rL17 => ?_)
     refine w_seq ?_
     refine wsr ?_
     refine oV (v_move rfl) ?_
     refine oV (v_fi rfl GNode.f5 fd133_5 rfl (z := y7.fields)) ?_
     refine oV (v_loadI ty56 rfl) ?_
     refine oV (v_ln (l := y7.fields) rfl (fun _ _ h => h) sl56) ?_
     refine oV (v_lss rfl rfl) ?_
     refine rnf ?_
     refine w_condM h rfl (fun _ h => ?_) (fun _ h => ?_)
     ·
      refine wkf ?_
      refine w_seq ?_
      refine w_block ?_
      refine wsr ?_
      refine oV (v_assign rfl) ?_
      refine rnf ?_
      refine w_seq ?_
      refine w_regionD (.v 0 (.v 1 (.v 2 (.v 3 (.v 4 (.v 5 (.v 6 (.v 7 (.v 8 (.v 9 (.t 10 (.v 11 (.v 12 (.v 13 (.v 14 (.v 15 .nil)))))))))))))))) moOrd (by kernel_rfl) ?_
      refine rd_v rfl (v_loadI ty75 rfl) ?_
      refine rd_v rfl (v_fi rfl GNode.f5 fd133_5 rfl (z := y7.fields)) ?_
      refine rd_v rfl (v_loadI ty56 rfl) ?_
      refine rd_v rfl (v_move rfl) ?_
      refine cal_inv h fun y28 hy28 h => ?_
      refine rd_v rfl (v_ix (l := y7.fields) rfl (fun _ _ h => h) rfl sl56 hy28) ?_
      refine rd_v rfl (v_fi rfl GFld.f1 fd69_1 rfl (z := y28.ty)) ?_
      refine rd_v rfl (v_loadI ty3 rfl) ?_
      refine rd_v rfl (v_move rfl) ?_
      refine ck_inv h fun q29 h => ?_
      refine rd_v rfl (v_add rfl rfl q29) ?_
      refine rd_v rfl (v_move rfl) ?_
      refine cal_inv h fun y30 hy30 h => ?_
      refine rd_t rfl rfl (t_call (h_r07_uses hy30) hT (.same rfl (.same rfl (.same rfl (.same rfl .nil)))) (.cons .here .nil) (fun R H' hR => ?_))
      obtain ⟨t31, rfl, rfl⟩ := hR
      refine rd_v rfl (v_move rfl) ?_
      refine rd_v rfl (v_extract rfl rfl) ?_
      refine rd_v rfl (v_extract rfl rfl) ?_
      refine rd_v rfl (v_assign rfl) ?_
      refine rd_v rfl (v_assign rfl) ?_
      refine rd_nil ?_
      refine fin_nxt ?_
      refine w_region ?_
      refine oV (v_move rfl) ?_
      refine oV (v_move rfl) ?_
      refine rl_j (ι := Bool) (γ := Unit) (fun q32 g32 => [(78, isv (q32))]) (fun q32 g32 => []) .nil h 2 rfl (fun q32 g32 h => ?_) (fun J33 h hJ33 => ?_)
      ·
       refine oV (v_assign rfl) ?_
       refine rl_nil ?_
       refine fin_block ?_
       refine fin_nxt ?_
       refine w_region ?_
       refine oV (v_move rfl) ?_
       refine ck_inv h fun q35 h => ?_
       refine oV (v_add rfl rfl q35) ?_
       refine oV (v_assign rfl) ?_
       refine rl_nil ?_
       exact hL17 _ (t31) h _ (join_imp 32 rfl rfl (mod_cons (j := 3) rfl (fun _ _ h => h) (mod_cons (j := 12) rfl (fun _ _ h => h) (mod_cons (j := 13) rfl (fun _ _ h => h) mod_nil))) (.cons .here .nil))
      ·
       refine rl_condM (j := 76) h rfl (fun g34 h => ?_) (fun g34 h => ?_)
       ·
        refine op_pass rfl (dj := 76) rfl g34 ?_
        refine oV (v_pick_t rfl g34 rfl) ?_
        exact hJ33 _ () h _ (join_imp 2 rfl rfl (mod_cons (j := 78) rfl (fun _ _ h => h) mod_nil) (.cons .here .nil))
       ·
        refine op_take rfl rfl (dj := 76) rfl g34 (OpV.t (v_move rfl) ?_)
        refine oV (v_pick_f rfl g34 rfl) ?_
        exact hJ33 _ () h _ (join_imp 2 rfl rfl (mod_cons (j := 78) rfl (fun _ _ h => h) mod_nil) (.cons .here .nil))
     ·
      refine w_exit ?_
      refine exi_nxt ?_
      refine eL17 _ _ ?_
      refine exi_block ?_
      refine fin_nxt ?_
      refine w_seq ?_
      refine wsr ?_
      refine oV (v_fi rfl GNode.f0 fd133_0 rfl (z := y7.kind)) ?_
      refine oV (v_loadI ty3 rfl) ?_
      refine oV (v_eql rfl rfl) ?_
      refine rnf ?_
      refine w_J (ι := (List Int) × Bool) (γ := Tok) (fun q36 g36 => [(3, appv g36 (q36.1)), (12, isv (q36.2))]) (fun q36 g36 => [tokE g36]) (.cons .here .nil) h (fun q36 g36 h => ?_) (fun J37 h hJ37 => ?_)
      ·
       refine wsr ?_
       refine oV (v_move rfl) ?_
       refine oV (v_move rfl) ?_
       refine oV (v_assign rfl) ?_
       refine oV (v_assign rfl) ?_
       refine rnf ?_
       refine w_ret ?_
       refine ret_post (.tmp rfl (.tmp rfl .nil)) (.cons .here .nil) ?_
       obtain rfl := Option.some.inj h
       exact ⟨g36, rfl, rfl⟩
      ·
       refine w_condM h rfl (fun _ h => ?_) (fun _ h => ?_)
       ·
        refine wsr ?_
        refine oV (v_assign rfl) ?_
        refine rnf ?_
        refine wsr ?_
        refine oV (v_loadI ty75 rfl) ?_
        refine oV (v_fi rfl GNode.f8 fd133_8 rfl (z := y7.of)) ?_
        refine oV (v_loadI ty3 rfl) ?_
        refine oV (v_move rfl) ?_
        refine ck_inv h fun q38 h => ?_
        refine oV (v_add rfl rfl q38) ?_
        refine oV (v_move rfl) ?_
        refine cal_inv h fun y39 hy39 h => ?_
        refine oT (t_call (h_r07_uses hy39) hT (.same rfl (.same rfl (.same rfl (.same rfl .nil)))) (.cons .here .nil) (fun R H' hR => ?_))
        obtain ⟨t40, rfl, rfl⟩ := hR
        refine oV (v_move rfl) ?_
        refine oV (v_extract rfl rfl) ?_
        refine oV (v_extract rfl rfl) ?_
        refine oV (v_assign rfl) ?_
        refine oV (v_assign rfl) ?_
        refine rnf ?_
        refine w_region ?_
        refine oV (v_move rfl) ?_
        refine oV (v_move rfl) ?_
        refine rl_j (ι := Bool) (γ := Unit) (fun q41 g41 => [(95, isv (q41))]) (fun q41 g41 => []) .nil h 2 rfl (fun q41 g41 h => ?_) (fun J42 h hJ42 => ?_)
        ·
         refine oV (v_assign rfl) ?_
         refine rl_nil ?_
         exact hJ37 _ (t40) h _ (join_imp 17 rfl rfl (mod_cons (j := 3) rfl (fun _ _ h => h) (mod_cons (j := 12) rfl (fun _ _ h => h) mod_nil)) (.cons .here .nil))
        ·
         refine rl_condM (j := 93) h rfl (fun g43 h => ?_) (fun g43 h => ?_)
         ·
          refine op_pass rfl (dj := 93) rfl g43 ?_
          refine oV (v_pick_t rfl g43 rfl) ?_
          exact hJ42 _ () h _ (join_imp 2 rfl rfl (mod_cons (j := 95) rfl (fun _ _ h => h) mod_nil) (.cons .here .nil))
         ·
          refine op_take rfl rfl (dj := 93) rfl g43 (OpV.t (v_move rfl) ?_)
          refine oV (v_pick_f rfl g43 rfl) ?_
          exact hJ42 _ () h _ (join_imp 2 rfl rfl (mod_cons (j := 95) rfl (fun _ _ h => h) mod_nil) (.cons .here .nil))
       ·
        refine w_skip ?_
        exact hJ37 _ (g16) h _ (join_imp 0 rfl rfl (mod_cons (j := 3) rfl (fun _ _ h => h) (mod_cons (j := 12) rfl (fun _ _ h => h) mod_nil)) (.cons .here .nil))
  ·
   refine rl_condM (j := 25) h rfl (fun g6 h => ?_) (fun g6 h => ?_)
   ·
    refine op_pass rfl (dj := 25) rfl g6 ?_
    refine op_pass rfl (dj := 25) rfl g6 ?_
    refine oV (v_pick_t rfl g6 rfl) ?_
    exact hJ5 _ () h _ (join_imp 3 rfl rfl (mod_cons (j := 28) rfl (fun _ _ h => h) mod_nil) (.cons .here .nil))
   ·
    refine op_take rfl rfl (dj := 25) rfl g6 (OpV.t (v_move rfl) ?_)
    refine op_take rfl rfl (dj := 25) rfl g6 (OpV.t (v_gtr rfl rfl) ?_)
    refine oV (v_pick_f rfl g6 rfl) ?_
    exact hJ5 _ () h _ (join_imp 3 rfl rfl (mod_cons (j := 28) rfl (fun _ _ h => h) mod_nil) (.cons .here .nil))
 ·
  refine rl_condM (j := 18) h rfl (fun g3 h => ?_) (fun g3 h => ?_)
  ·
   refine op_pass rfl (dj := 18) rfl g3 ?_
   refine op_pass rfl (dj := 18) rfl g3 ?_
   refine op_pass rfl (dj := 18) rfl g3 ?_
   refine op_pass rfl (dj := 18) rfl g3 ?_
   refine op_pass rfl (dj := 18) rfl g3 ?_
   refine oV (v_pick_t rfl g3 rfl) ?_
   exact hJ2 _ () h _ (join_imp 6 rfl rfl (mod_cons (j := 24) rfl (fun _ _ h => h) mod_nil) (.cons .here .nil))
  ·
   refine op_take rfl rfl (dj := 18) rfl g3 (OpV.t (v_move rfl) ?_)
   refine op_take rfl rfl (dj := 18) rfl g3 (OpV.t (v_fi rfl GMod.f4 fd75_4 rfl (z := a_m.nodes)) ?_)
   refine op_take rfl rfl (dj := 18) rfl g3 (OpV.t (v_loadI ty73 rfl) ?_)
   refine op_take rfl rfl (dj := 18) rfl g3 (OpV.t (v_ln (l := a_m.nodes) rfl (fun _ _ h => h) sl73) ?_)
   refine op_take rfl rfl (dj := 18) rfl g3 (OpV.t (v_geq rfl rfl) ?_)
   refine oV (v_pick_f rfl g3 rfl) ?_
   exact hJ2 _ () h _ (join_imp 6 rfl rfl (mod_cons (j := 24) rfl (fun _ _ h => h) mod_nil) (.cons .here .nil))

theorem r07_uses_grp_w : ∀ n, r07_uses_C (r07_uses n)
 | 0 => fun h => (by cases h)
 | n + 1 => r07_uses_w0 (r07_uses_grp_w n)
theorem r07_uses_w (n : Nat) : r07_uses_C (r07_uses n) := (r07_uses_grp_w n)

theorem r07_reach_w : ∀ {a_graph : (List (List Int))} {a_from_ : Int} {a_to : Int} {r : Bool}, r07_reach a_graph a_from_ a_to = some r → Ctr Tryd.prog 83 [isv (a_graph), isv (a_from_), isv (a_to)] [] (fun R H => R = oneOf [isv (r)] ∧ H = []) := by
 intro a_graph a_from_ a_to r h
 unfold r07_reach at h
 refine spec_intro Tryd.func83 rfl (by decide +kernel) (by rfl) fun w0 S0 hT => ?_
 refine wsr ?_
 refine oV (v_assign rfl) ?_
 refine rnf ?_
 refine wsr ?_
 refine oT (t_buildSlice (l := ([] : (List Int))) el23 .nil rfl rfl ?_)
 refine oV (v_assign rfl) ?_
 refine rnf ?_
 refine wsr ?_
 refine oV (v_move rfl) ?_
 refine oV (v_move rfl) ?_
 refine cal_inv h fun y2 hy2 h => ?_
 refine oV (v_ix (l := a_graph) rfl (fun _ _ h => h) rfl sl49 hy2) ?_
 refine oV (v_loadI ty23 rfl) ?_
 refine asr_inv h fun q4 h => ?_
 refine oT (t_appN (m := y2) ap23_23 rfl rfl (fun _ _ h => h) q4 fun t3 => ?_)
 refine oV (v_assign rfl) ?_
 refine rnf ?_
 refine w_seq ?_
 refine w_block ?_
 refine w_upd (upd_tok) ?_
 refine w_lp (ι := (List Int) × (List Int)) (γ := Tok × Tok) (fun q5 g5 => [(7, appv g5.1 (q5.1)), (8, appv g5.2 (q5.2))]) (fun q5 g5 => [tokE g5.1, tokE g5.2]) h (none, t3) (mod_cons (j := 7) rfl (fun _ _ h => h) (mod_cons (j := 8) rfl (fun _ _ h => h) mod_nil)) (.cons .here (.cons .here .nil)) (fun L6 q5 g5 Q27 h hL6 eL6 rL6 => ?_)
 refine w_seq ?_
 refine wsr ?_
 refine oV (v_move rfl) ?_
 refine oV (v_ln (l := q5.2) rfl appv_isv sl23) ?_
 refine oV (v_gtr rfl rfl) ?_
 refine rnf ?_
 refine w_condM h rfl (fun _ h => ?_) (fun _ h => ?_)
 ·
  refine wkf ?_
  refine w_block ?_
  refine wsr ?_
  refine oV (v_move rfl) ?_
  refine cal_inv h fun y17 hy17 h => ?_
  refine oV (v_ix (l := q5.2) rfl appv_isv rfl sl23 hy17) ?_
  refine oV (v_loadI ty3 rfl) ?_
  refine oV (v_assign rfl) ?_
  refine rnf ?_
  refine wsr ?_
  refine oV (v_move rfl) ?_
  refine asd_inv h fun q18 h => ?_
  refine oT (t_slA rfl sl23 rfl q18.1 q18.2 (.there .here) fun t19 => ?_)
  refine oV (v_assign rfl) ?_
  refine rnf ?_
  refine w_seq ?_
  refine wsr ?_
  refine oV (v_move rfl) ?_
  refine oV (v_move rfl) ?_
  refine oV (v_eql rfl rfl) ?_
  refine rnf ?_
  refine w_condM h rfl (fun _ h => ?_) (fun _ h => ?_)
  ·
   refine wsr ?_
   refine oV (v_assign rfl) ?_
   refine rnf ?_
   refine w_ret ?_
   refine ret_nxt ?_
   refine ret_block ?_
   refine rL6 _ ?_
   refine ret_block ?_
   refine ret_nxt ?_
   refine ret_post (.tmp rfl .nil) .nil ?_
   obtain rfl := Option.some.inj h
   exact ⟨rfl, rfl⟩
  ·
   refine wkf ?_
   refine wsr ?_
   refine oV (v_move rfl) ?_
   refine oV (v_move rfl) ?_
   refine cal_inv h fun y20 hy20 h => ?_
   refine oT (t_call (h_In_int_w hy20) hT (.cons rfl appv_isv (.same rfl .nil)) .nil (fun R H' hR => ?_))
   obtain ⟨rfl, rfl⟩ := hR
   refine oV (v_not rfl) ?_
   refine rnf ?_
   refine w_condM h rfl (fun _ h => ?_) (fun _ h => ?_)
   ·
    refine wsr ?_
    refine oV (v_move rfl) ?_
    refine oV (v_move rfl) ?_
    refine oT (t_buildSlice (l := ([y17] : (List Int))) el23 (.cons rfl (fun _ _ h => h) .nil) rfl rfl ?_)
    refine asr_inv h fun q23 h => ?_
    refine oT (t_appC (l := q5.1) (m := ([y17] : (List Int))) ap23_23 rfl (fun _ _ h => h) rfl appv_isv (.there .here) q23 fun t22 => ?_)
    refine oV (v_assign rfl) ?_
    refine rnf ?_
    refine w_region ?_
    refine oV (v_move rfl) ?_
    refine oV (v_move rfl) ?_
    refine oV (v_move rfl) ?_
    refine cal_inv h fun y24 hy24 h => ?_
    refine oV (v_ix (l := a_graph) rfl (fun _ _ h => h) rfl sl49 hy24) ?_
    refine oV (v_loadI ty23 rfl) ?_
    refine asr_inv h fun q26 h => ?_
    refine oT (t_appC (l := (q5.2.drop ((1 : Int)).toNat)) (m := y24) ap23_23 rfl (fun _ _ h => h) rfl (fun _ _ h => h) (.there .here) q26 fun t25 => ?_)
    refine oV (v_assign rfl) ?_
    refine rl_nil ?_
    refine fin_block ?_
    exact hL6 _ (t22, t25) h _ (join_imp 31 rfl rfl (mod_cons (j := 7) rfl (fun _ _ h => h) (mod_cons (j := 8) rfl (fun _ _ h => h) mod_nil)) (.cons (.there .here) (.cons .here .nil)))
   ·
    refine w_skip ?_
    refine fin_block ?_
    exact hL6 _ (g5.1, t19) h _ (join_imp 19 rfl rfl (mod_cons (j := 7) rfl (fun _ _ h => h) (mod_cons (j := 8) rfl (fun _ _ h => h) mod_nil)) (.cons (.there .here) (.cons .here .nil)))
 ·
  refine w_exit ?_
  refine exi_nxt ?_
  refine eL6 _ _ ?_
  refine exi_block ?_
  refine fin_nxt ?_
  refine wsr ?_
  refine oV (v_assign rfl) ?_
  refine rnf ?_
  refine w_ret ?_
  refine ret_post (.tmp rfl .nil) .nil ?_
  obtain rfl := Option.some.inj h
  exact ⟨rfl, rfl⟩


theorem r07_Order_w : ∀ {a_m : GMod} {r : (List Int) × Int × Int}, r07_Order a_m = some r → Ctr Tryd.prog 57 [isv (a_m)] [] (fun R H => R = oneOf [isv (r.1), isv (r.2.1), isv (r.2.2)] ∧ H = []) := by
 intro a_m r h
 unfold r07_Order at h
 refine spec_intro Tryd.func57 rfl (by decide +kernel) (by rfl) fun w0 S0 hT => ?_
 refine wsr ?_
 refine oT (t_boxIC (y := a_m) rfl (fun _ _ h => h) ?_)
 refine oV (v_assign rfl) ?_
 refine oV (v_assign rfl) ?_
 refine oV (v_assign rfl) ?_
 refine rnf ?_
 refine wsr ?_
 refine oV (v_assign rfl) ?_
 refine rnf ?_
 refine wsr ?_
 refine oV (v_assign rfl) ?_
 refine rnf ?_
 refine w_seq ?_
 refine wsr ?_
 refine oV (v_assign rfl) ?_
 refine rnf ?_
 refine w_block ?_
 refine w_lp (ι := Int) (γ := Unit) (fun q1 g1 => [(7, isv (q1))]) (fun q1 g1 => []) h () (mod_cons (j := 7) rfl (fun _ _ h => h) mod_nil) .nil (fun L2 q1 g1 Q1603 h hL2 eL2 rL2 => ?_)
 refine w_seq ?_
 refine wsr ?_
 refine oV (v_move rfl) ?_
 refine oV (v_fi rfl GMod.f2 fd75_2 rfl (z := a_m.names)) ?_
 refine oV (v_loadI ty22 rfl) ?_
 refine oV (v_ln (l := a_m.names) rfl (fun _ _ h => h) sl22) ?_
 refine oV (v_lss rfl rfl) ?_
 refine rnf ?_
 refine w_condM h rfl (fun _ h => ?_) (fun _ h => ?_)
 ·
  refine wkf ?_
  refine w_seq ?_
  refine w_block ?_
  refine w_seq ?_
  refine w_regionD (.v 0 (.v 1 (.v 2 (.v 3 (.v 4 (.v 5 (.v 6 (.v 7 (.v 8 (.t 9 .nil)))))))))) moOrd (by kernel_rfl) ?_
  refine rd_v rfl (v_fi rfl GMod.f2 fd75_2 rfl (z := a_m.names)) ?_
  refine rd_v rfl (v_loadI ty22 rfl) ?_
  refine rd_v rfl (v_move rfl) ?_
  refine asd_inv h fun q803 h => ?_
  refine rd_v rfl (v_sl (l := a_m.names) rfl (fun _ _ h => h) sl22 (.inl ⟨rfl, rfl⟩) (.inr ⟨_, rfl, rfl⟩) q803.1 q803.2.1 q803.2.2) ?_
  refine rd_v rfl (v_fi rfl GMod.f2 fd75_2 rfl (z := a_m.names)) ?_
  refine rd_v rfl (v_loadI ty22 rfl) ?_
  refine rd_v rfl (v_move rfl) ?_
  refine cal_inv h fun y804 hy804 h => ?_
  refine rd_v rfl (v_ix (l := a_m.names) rfl (fun _ _ h => h) rfl sl22 hy804) ?_
  refine rd_v rfl (v_loadI ty9 rfl) ?_
  refine cal_inv h fun y805 hy805 h => ?_
  refine rd_t rfl rfl (t_call (h_In_string_w hy805) hT (.same rfl (.same rfl .nil)) .nil (fun R H' hR => ?_))
  obtain ⟨rfl, rfl⟩ := hR
  refine rd_nil ?_
  refine fin_nxt ?_
  refine w_condM h rfl (fun _ h => ?_) (fun _ h => ?_)
  ·
   refine wsr ?_
   refine oV (v_move rfl) ?_
   refine oV (v_assign rfl) ?_
   refine oV (v_assign rfl) ?_
   refine oV (v_assign rfl) ?_
   refine rnf ?_
   refine w_ret ?_
   refine ret_block ?_
   refine ret_nxt ?_
   refine rL2 _ ?_
   refine ret_block ?_
   refine ret_nxt ?_
   refine ret_post (.as rfl (nilv_isv (α := Int)) (.tmp rfl (.tmp rfl .nil))) .nil ?_
   obtain rfl := Option.some.inj h
   exact ⟨rfl, rfl⟩
  ·
   refine w_skip ?_
   refine fin_block ?_
   refine fin_nxt ?_
   refine w_region ?_
   refine oV (v_move rfl) ?_
   refine ck_inv h fun q806 h => ?_
   refine oV (v_add rfl rfl q806) ?_
   refine oV (v_assign rfl) ?_
   refine rl_nil ?_
   exact hL2 _ () h _ (join_imp 19 rfl rfl (mod_cons (j := 7) rfl (fun _ _ h => h) mod_nil) .nil)
 ·
  refine w_exit ?_
  refine exi_nxt ?_
  refine eL2 _ _ ?_
  refine exi_block ?_
  refine fin_nxt ?_
  refine w_seq ?_
  refine wsr ?_
  refine oV (v_assign rfl) ?_
  refine rnf ?_
  refine w_block ?_
  refine w_upd (upd_tok) ?_
  refine w_lp (ι := (List (List Int)) × Int × Int) (γ := Tok) (fun q807 g807 => [(5, appv g807 (q807.1)), (6, isv (q807.2.1)), (8, isv (q807.2.2))]) (fun q807 g807 => [tokE g807]) h (none) (mod_cons (j := 5) rfl nilv_appv (mod_cons (j := 6) rfl (fun _ _ h => h) (mod_cons (j := 8) rfl (fun _ _ h => h) mod_nil))) (.cons .here .nil) (fun L808 q807 g807 Q1602 h hL808 eL808 rL808 => ?_)
  refine w_seq ?_
  refine wsr ?_
  refine oV (v_move rfl) ?_
  refine oV (v_fi rfl GMod.f2 fd75_2 rfl (z := a_m.names)) ?_
  refine oV (v_loadI ty22 rfl) ?_
  refine oV (v_ln (l := a_m.names) rfl (fun _ _ h => h) sl22) ?_
  refine oV (v_lss rfl rfl) ?_
  refine rnf ?_
  refine w_condM h rfl (fun _ h => ?_) (fun _ h => ?_)
  ·
   refine wkf ?_
   refine w_seq ?_
   refine w_J (ι := (List (List Int)) × Int) (γ := Tok) (fun q1337 g1337 => [(5, appv g1337 (q1337.1)), (6, isv (q1337.2))]) (fun q1337 g1337 => [tokE g1337]) (.cons .here .nil) h (fun q1337 g1337 h => ?_) (fun J1338 h hJ1338 => ?_)
   ·
    refine w_region ?_
    refine oV (v_move rfl) ?_
    refine ck_inv h fun q1349 h => ?_
    refine oV (v_add rfl rfl q1349) ?_
    refine oV (v_assign rfl) ?_
    refine rl_nil ?_
    exact hL808 _ (g1337) h _ (join_imp 13 rfl rfl (mod_cons (j := 5) rfl (fun _ _ h => h) (mod_cons (j := 6) rfl (fun _ _ h => h) (mod_cons (j := 8) rfl (fun _ _ h => h) mod_nil))) (.cons .here .nil))
   ·
    refine w_block ?_
    refine w_seq ?_
    refine w_regionD (.v 0 (.v 1 (.v 2 (.v 3 (.v 4 (.v 5 (.t 6 (.v 7 (.v 8 (.v 9 (.v 10 (.v 11 .nil)))))))))))) moOrd (by kernel_rfl) ?_
    refine rd_v rfl (v_loadI ty75 rfl) ?_
    refine rd_v rfl (v_fi rfl GMod.f3 fd75_3 rfl (z := a_m.types)) ?_
    refine rd_v rfl (v_loadI ty23 rfl) ?_
    refine rd_v rfl (v_move rfl) ?_
    refine cal_inv h fun y1339 hy1339 h => ?_
    refine rd_v rfl (v_ix (l := a_m.types) rfl (fun _ _ h => h) rfl sl23 hy1339) ?_
    refine rd_v rfl (v_loadI ty3 rfl) ?_
    refine rd_upd (upd_tok) ?_
    refine cal_inv h fun y1341 hy1341 h => ?_
    refine rd_t rfl rfl (t_call (r07_uses_w fuel hy1341) hT (.same rfl (.same rfl (.same rfl (.cons rfl nilv_appv .nil)))) (.cons .here .nil) (fun R H' hR => ?_))
    obtain ⟨t1342, rfl, rfl⟩ := hR
    refine rd_v rfl (v_move rfl) ?_
    refine rd_v rfl (v_extract rfl rfl) ?_
    refine rd_v rfl (v_extract rfl rfl) ?_
    refine rd_v rfl (v_assign rfl) ?_
    refine rd_v rfl (v_assign rfl) ?_
    refine rd_nil ?_
    refine fin_nxt ?_
    refine wsr ?_
    refine oV (v_move rfl) ?_
    refine oV (v_move rfl) ?_
    refine oT (t_buildSlice (l := ([y1341.1] : (List (List Int)))) el49 (.cons rfl appv_isv .nil) rfl rfl ?_)
    refine asr_inv h fun q1345 h => ?_
    refine oT (t_appC (l := q807.1) (m := ([y1341.1] : (List (List Int)))) ap49_49 rfl (fun _ _ h => h) rfl appv_isv (.there .here) q1345 fun t1344 => ?_)
    refine oV (v_assign rfl) ?_
    refine rnf ?_
    refine wsr ?_
    refine oV (v_move rfl) ?_
    refine oV (v_move rfl) ?_
    refine rl_j (ι := Bool) (γ := Unit) (fun q1346 g1346 => [(59, isv (q1346))]) (fun q1346 g1346 => []) .nil h 3 rfl (fun q1346 g1346 h => ?_) (fun J1347 h hJ1347 => ?_)
    ·
     refine rnf ?_
     refine w_condM h rfl (fun _ h => ?_) (fun _ h => ?_)
     ·
      refine w_region ?_
      refine oV (v_move rfl) ?_
      refine oV (v_assign rfl) ?_
      refine rl_nil ?_
      refine fin_block ?_
      exact hJ1338 _ (t1344) h _ (join_imp 22 rfl rfl (mod_cons (j := 5) rfl (fun _ _ h => h) (mod_cons (j := 6) rfl (fun _ _ h => h) mod_nil)) (.cons .here .nil))
     ·
      refine w_skip ?_
      refine fin_block ?_
      exact hJ1338 _ (t1344) h _ (join_imp 20 rfl rfl (mod_cons (j := 5) rfl (fun _ _ h => h) (mod_cons (j := 6) rfl (fun _ _ h => h) mod_nil)) (.cons .here .nil))
    ·
     refine rl_condM (j := 56) h rfl (fun g1348 h => ?_) (fun g1348 h => ?_)
     ·
      refine op_take rfl rfl (dj := 56) rfl g1348 (OpV.t (v_move rfl) ?_)
      refine op_take rfl rfl (dj := 56) rfl g1348 (OpV.t (v_lss rfl rfl) ?_)
      refine oV (v_pick_t rfl g1348 rfl) ?_
      exact hJ1347 _ () h _ (join_imp 3 rfl rfl (mod_cons (j := 59) rfl (fun _ _ h => h) mod_nil) (.cons .here (.cons .here .nil)))
     ·
      refine op_pass rfl (dj := 56) rfl g1348 ?_
      refine op_pass rfl (dj := 56) rfl g1348 ?_
      refine oV (v_pick_f rfl g1348 rfl) ?_
      exact hJ1347 _ () h _ (join_imp 3 rfl rfl (mod_cons (j := 59) rfl (fun _ _ h => h) mod_nil) (.cons .here (.cons .here .nil)))
  ·
   refine w_exit ?_
   refine exi_nxt ?_
   refine eL808 _ _ ?_
   refine exi_block ?_
   refine fin_nxt ?_
   refine w_seq ?_
   refine wsr ?_
   refine oV (v_move rfl) ?_
   refine oV (v_geq rfl rfl) ?_
   refine rnf ?_
   refine w_condM h rfl (fun _ h => ?_) (fun _ h => ?_)
   ·
    refine wsr ?_
    refine oV (v_move rfl) ?_
    refine oV (v_assign rfl) ?_
    refine oV (v_assign rfl) ?_
    refine oV (v_assign rfl) ?_
    refine rnf ?_
    refine w_ret ?_
    refine ret_nxt ?_
    refine ret_post (.as rfl (nilv_isv (α := Int)) (.tmp rfl (.tmp rfl .nil))) .nil ?_
    obtain rfl := Option.some.inj h
    exact ⟨rfl, rfl⟩
   ·
    refine wkf ?_
    refine w_seq ?_
    refine wsr ?_
    refine oV (v_assign rfl) ?_
    refine rnf ?_
    refine w_block ?_
    refine w_lp (ι := Int) (γ := Unit) (fun q1350 g1350 => [(11, isv (q1350))]) (fun q1350 g1350 => []) h () (mod_cons (j := 11) rfl (fun _ _ h => h) mod_nil) .nil (fun L1351 q1350 g1350 Q1600 h hL1351 eL1351 rL1351 => ?_)
    refine w_seq ?_
    refine wsr ?_
    refine oV (v_move rfl) ?_
    refine oV (v_fi rfl GMod.f2 fd75_2 rfl (z := a_m.names)) ?_
    refine oV (v_loadI ty22 rfl) ?_
    refine oV (v_ln (l := a_m.names) rfl (fun _ _ h => h) sl22) ?_
    refine oV (v_lss rfl rfl) ?_
    refine rnf ?_
    refine w_condM h rfl (fun _ h => ?_) (fun _ h => ?_)
    ·
     refine wkf ?_
     refine w_seq ?_
     refine w_block ?_
     refine wsr ?_
     refine oV (v_move rfl) ?_
     refine oV (v_move rfl) ?_
     refine oV (v_move rfl) ?_
     refine cal_inv h fun y1476 hy1476 h => ?_
     refine oT (t_call (r07_reach_w hy1476) hT (.cons rfl appv_isv (.same rfl (.same rfl .nil))) .nil (fun R H' hR => ?_))
     obtain ⟨rfl, rfl⟩ := hR
     refine rnf ?_
     refine w_condM h rfl (fun _ h => ?_) (fun _ h => ?_)
     ·
      refine wsr ?_
      refine oV (v_move rfl) ?_
      refine oV (v_assign rfl) ?_
      refine oV (v_assign rfl) ?_
      refine oV (v_assign rfl) ?_
      refine rnf ?_
      refine w_ret ?_
      refine ret_block ?_
      refine ret_nxt ?_
      refine rL1351 _ ?_
      refine ret_block ?_
      refine ret_nxt ?_
      refine ret_post (.as rfl (nilv_isv (α := Int)) (.tmp rfl (.tmp rfl .nil))) .nil ?_
      obtain rfl := Option.some.inj h
      exact ⟨rfl, rfl⟩
     ·
      refine w_skip ?_
      refine fin_block ?_
      refine fin_nxt ?_
      refine w_region ?_
      refine oV (v_move rfl) ?_
      refine ck_inv h fun q1477 h => ?_
      refine oV (v_add rfl rfl q1477) ?_
      refine oV (v_assign rfl) ?_
      refine rl_nil ?_
      exact hL1351 _ () h _ (join_imp 13 rfl rfl (mod_cons (j := 11) rfl (fun _ _ h => h) mod_nil) (.cons .here .nil))
    ·
     refine w_exit ?_
     refine exi_nxt ?_
     refine eL1351 _ _ ?_
     refine exi_block ?_
     refine fin_nxt ?_
     refine wsr ?_
     refine oV (v_assign rfl) ?_
     refine rnf ?_
     refine w_seq ?_
     refine w_block ?_
     refine w_upd (upd_tok) ?_
     refine w_lp (ι := (List Int)) (γ := Tok) (fun q1478 g1478 => [(12, appv g1478 (q1478))]) (fun q1478 g1478 => [tokE g1478]) h (none) (mod_cons (j := 12) rfl nilv_appv mod_nil) (.cons .here .nil) (fun L1479 q1478 g1478 Q1599 h hL1479 eL1479 rL1479 => ?_)
     refine w_seq ?_
     refine wsr ?_
     refine oV (v_move rfl) ?_
     refine oV (v_ln (l := q1478) rfl appv_isv sl23) ?_
     refine oV (v_fi rfl GMod.f2 fd75_2 rfl (z := a_m.names)) ?_
     refine oV (v_loadI ty22 rfl) ?_
     refine oV (v_ln (l := a_m.names) rfl (fun _ _ h => h) sl22) ?_
     refine oV (v_lss rfl rfl) ?_
     refine rnf ?_
     refine w_condM h rfl (fun _ h => ?_) (fun _ h => ?_)
     ·
      refine wkf ?_
      refine w_block ?_
      refine wsr ?_
      refine oV (v_assign rfl) ?_
      refine rnf ?_
      refine w_block ?_
      refine w_lp (ι := Int) (γ := Unit) (fun q1539 g1539 => [(13, isv (q1539))]) (fun q1539 g1539 => []) h () (mod_cons (j := 13) rfl (fun _ _ h => h) mod_nil) .nil (fun L1540 q1539 g1539 Q1597 h hL1540 eL1540 rL1540 => ?_)
      refine w_seq ?_
      refine wsr ?_
      refine oV (v_move rfl) ?_
      refine oV (v_fi rfl GMod.f2 fd75_2 rfl (z := a_m.names)) ?_
      refine oV (v_loadI ty22 rfl) ?_
      refine oV (v_ln (l := a_m.names) rfl (fun _ _ h => h) sl22) ?_
      refine oV (v_lss rfl rfl) ?_
      refine rnf ?_
      refine w_condM h rfl (fun _ h => ?_) (fun _ h => ?_)
      ·
       refine wkf ?_
       refine w_seq ?_
       refine w_block ?_
       refine wsr ?_
       refine oV (v_move rfl) ?_
       refine oV (v_move rfl) ?_
       refine cal_inv h fun y1569 hy1569 h => ?_
       refine oT (t_call (h_In_int_w hy1569) hT (.cons rfl appv_isv (.same rfl .nil)) .nil (fun R H' hR => ?_))
       obtain ⟨rfl, rfl⟩ := hR
       refine oV (v_not rfl) ?_
       refine oV (v_assign rfl) ?_
       refine rnf ?_
       refine w_seq ?_
       refine wsr ?_
       refine oV (v_assign rfl) ?_
       refine rnf ?_
       refine w_block ?_
       refine w_lp (ι := Bool × Int) (γ := Unit) (fun q1570 g1570 => [(14, isv (q1570.1)), (15, isv (q1570.2))]) (fun q1570 g1570 => []) h () (mod_cons (j := 14) rfl (fun _ _ h => h) (mod_cons (j := 15) rfl (fun _ _ h => h) mod_nil)) .nil (fun L1571 q1570 g1570 Q1596 h hL1571 eL1571 rL1571 => ?_)
       refine w_seq ?_
       refine wsr ?_
       refine oV (v_move rfl) ?_
       refine oV (v_move rfl) ?_
       refine oV (v_move rfl) ?_
       refine cal_inv h fun y1584 hy1584 h => ?_
       refine oV (v_ix (l := q807.1) rfl appv_isv rfl sl49 hy1584) ?_
       refine oV (v_loadI ty23 rfl) ?_
       refine oV (v_ln (l := y1584) rfl (fun _ _ h => h) sl23) ?_
       refine oV (v_lss rfl rfl) ?_
       refine rnf ?_
       refine w_condM h rfl (fun _ h => ?_) (fun _ h => ?_)
       ·
        refine wkf ?_
        refine w_seq ?_
        refine w_block ?_
        refine w_region ?_
        refine oV (v_move rfl) ?_
        refine oV (v_move rfl) ?_
        refine rl_j (ι := Bool) (γ := Unit) (fun q1585 g1585 => [(113, isv (q1585))]) (fun q1585 g1585 => []) .nil h 10 rfl (fun q1585 g1585 h => ?_) (fun J1586 h hJ1586 => ?_)
        ·
         refine oV (v_assign rfl) ?_
         refine rl_nil ?_
         refine fin_block ?_
         refine fin_nxt ?_
         refine w_region ?_
         refine oV (v_move rfl) ?_
         refine ck_inv h fun q1591 h => ?_
         refine oV (v_add rfl rfl q1591) ?_
         refine oV (v_assign rfl) ?_
         refine rl_nil ?_
         exact hL1571 _ () h _ (join_imp 16 rfl rfl (mod_cons (j := 14) rfl (fun _ _ h => h) (mod_cons (j := 15) rfl (fun _ _ h => h) mod_nil)) (.cons .here (.cons .here .nil)))
        ·
         refine rl_condM (j := 103) h rfl (fun g1587 h => ?_) (fun g1587 h => ?_)
         ·
          refine op_take rfl rfl (dj := 103) rfl g1587 (OpV.t (v_move rfl) ?_)
          refine op_take rfl rfl (dj := 103) rfl g1587 (OpV.t (v_move rfl) ?_)
          refine op_take rfl rfl (dj := 103) rfl g1587 (OpV.t (v_move rfl) ?_)
          refine cal_inv h fun y1588 hy1588 h => ?_
          refine op_take rfl rfl (dj := 103) rfl g1587 (OpV.t (v_ix (l := q807.1) rfl appv_isv rfl sl49 hy1588) ?_)
          refine op_take rfl rfl (dj := 103) rfl g1587 (OpV.t (v_loadI ty23 rfl) ?_)
          refine op_take rfl rfl (dj := 103) rfl g1587 (OpV.t (v_move rfl) ?_)
          refine cal_inv h fun y1589 hy1589 h => ?_
          refine op_take rfl rfl (dj := 103) rfl g1587 (OpV.t (v_ix (l := y1588) rfl (fun _ _ h => h) rfl sl23 hy1589) ?_)
          refine op_take rfl rfl (dj := 103) rfl g1587 (OpV.t (v_loadI ty3 rfl) ?_)
          refine cal_inv h fun y1590 hy1590 h => ?_
          refine op_take rfl rfl (dj := 103) rfl g1587 (t_call (h_In_int_w hy1590) hT (.cons rfl appv_isv (.same rfl .nil)) .nil (fun R H' hR => ?_))
          obtain ⟨rfl, rfl⟩ := hR
          refine oV (v_pick_t rfl g1587 rfl) ?_
          exact hJ1586 _ () h _ (join_imp 10 rfl rfl (mod_cons (j := 113) rfl (fun _ _ h => h) mod_nil) (.cons .here (.cons .here .nil)))
         ·
          refine op_pass rfl (dj := 103) rfl g1587 ?_
          refine op_pass rfl (dj := 103) rfl g1587 ?_
          refine op_pass rfl (dj := 103) rfl g1587 ?_
          refine op_pass rfl (dj := 103) rfl g1587 ?_
          refine op_pass rfl (dj := 103) rfl g1587 ?_
          refine op_pass rfl (dj := 103) rfl g1587 ?_
          refine op_pass rfl (dj := 103) rfl g1587 ?_
          refine op_pass rfl (dj := 103) rfl g1587 ?_
          refine op_pass rfl (dj := 103) rfl g1587 ?_
          refine oV (v_pick_f rfl g1587 rfl) ?_
          exact hJ1586 _ () h _ (join_imp 10 rfl rfl (mod_cons (j := 113) rfl (fun _ _ h => h) mod_nil) (.cons .here (.cons .here .nil)))
       ·
        refine w_exit ?_
        refine exi_nxt ?_
        refine eL1571 _ _ ?_
        refine exi_block ?_
        refine fin_nxt ?_
        refine wsr ?_
        refine oV (v_move rfl) ?_
        refine rnf ?_
        refine w_condM h rfl (fun _ h => ?_) (fun _ h => ?_)
        ·
         refine wsr ?_
         refine oV (v_move rfl) ?_
         refine oV (v_move rfl) ?_
         refine oT (t_buildSlice (l := ([q1539] : (List Int))) el23 (.cons rfl (fun _ _ h => h) .nil) rfl rfl ?_)
         refine asr_inv h fun q1594 h => ?_
         refine oT (t_appC (l := q1478) (m := ([q1539] : (List Int))) ap23_23 rfl (fun _ _ h => h) rfl appv_isv .here q1594 fun t1593 => ?_)
         refine oV (v_assign rfl) ?_
         refine rnf ?_
         refine w_exit ?_
         refine exi_pass rfl ?_
         refine exi_nxt ?_
         refine eL1540 _ _ ?_
         refine exi_block ?_
         refine fin_block ?_
         exact hL1479 _ (t1593) h _ (join_imp 35 rfl rfl (mod_cons (j := 12) rfl (fun _ _ h => h) mod_nil) (.cons .here (.cons .here .nil)))
        ·
         refine w_skip ?_
         refine fin_block ?_
         refine fin_nxt ?_
         refine w_region ?_
         refine oV (v_move rfl) ?_
         refine ck_inv h fun q1595 h => ?_
         refine oV (v_add rfl rfl q1595) ?_
         refine oV (v_assign rfl) ?_
         refine rl_nil ?_
         exact hL1540 _ () h _ (join_imp 25 rfl rfl (mod_cons (j := 13) rfl (fun _ _ h => h) mod_nil) (.cons .here (.cons .here .nil)))
      ·
       refine w_exit ?_
       refine exi_nxt ?_
       refine eL1540 _ _ ?_
       refine exi_block ?_
       refine fin_block ?_
       exact hL1479 _ (g1478) h _ (join_imp 14 rfl rfl (mod_cons (j := 12) rfl (fun _ _ h => h) mod_nil) (.cons .here (.cons .here .nil)))
     ·
      refine w_exit ?_
      refine exi_nxt ?_
      refine eL1479 _ _ ?_
      refine exi_block ?_
      refine fin_nxt ?_
      refine wsr ?_
      refine oV (v_move rfl) ?_
      refine oV (v_assign rfl) ?_
      refine oV (v_assign rfl) ?_
      refine oV (v_assign rfl) ?_
      refine rnf ?_
      refine w_ret ?_
      refine ret_post (.as rfl appv_isv (.tmp rfl (.tmp rfl .nil))) .nil ?_
      obtain rfl := Option.some.inj h
      exact ⟨rfl, rfl⟩


theorem r10_maker_fail_w : ∀ {a_x : GMk} {a_e : Int} {b_a_x : Nat} {v_a_x1 : Vt} {r : GMk}, r10_maker_fail a_x a_e = some r → Ctr Tryd.prog 110 [ptrv b_a_x (Fld.id (GMod × Vh × Int)), isv (a_e)] [boxE b_a_x ((a_x.m, (Vh.mk v_a_x1 a_x.l.length), a_x.e) : (GMod × Vh × Int)), vecE v_a_x1 (a_x.l : List GTyp)] (fun R H => R = oneOf [] ∧ H = [boxE b_a_x ((r.m, (Vh.mk v_a_x1 r.l.length), r.e)), vecE v_a_x1 (r.l)]) := by
 intro a_x a_e b_a_x v_a_x1 r h
 unfold r10_maker_fail at h
 refine spec_intro Tryd.func110 rfl (by decide +kernel) (by rfl) fun w0 S0 hT => ?_
 refine wsr ?_
 refine oV (v_move rfl) ?_
 refine oV (v_nilCheck rfl) ?_
 refine oV (v_fa rfl pt113_0_2 fd113_2) ?_
 refine oT (t_loadC (R := isv (a_x.e)) ty30 rfl .here (fun _ _ h => h) ?_)
 refine oV (v_eql rfl rfl) ?_
 refine rnf ?_
 refine w_condM h rfl (fun _ h => ?_) (fun _ h => ?_)
 ·
  refine w_region ?_
  refine oV (v_move rfl) ?_
  refine oV (v_move rfl) ?_
  refine oV (v_nilCheck rfl) ?_
  refine oV (v_fa rfl pt113_0_2 fd113_2) ?_
  refine oT (t_storeC (y' := ((a_x.m, (Vh.mk v_a_x1 a_x.l.length), a_e) : (GMod × Vh × Int))) ty30 rfl rfl (fun _ _ h => h) .here rfl ?_)
  refine rl_nil ?_
  refine fin_post .nil (.cons .here (.cons .here .nil)) ?_
  obtain rfl := Option.some.inj h
  exact ⟨rfl, rfl⟩
 ·
  refine w_skip ?_
  refine fin_post .nil (.cons .here (.cons .here .nil)) ?_
  obtain rfl := Option.some.inj h
  exact ⟨rfl, rfl⟩


theorem r09_Universal_w : ∀ {a_kind : Int} {r : Tag}, r09_Universal a_kind = some r → Ctr Tryd.prog 111 [isv (a_kind)] [] (fun R H => R = oneOf [isv (r)] ∧ H = []) := by
 intro a_kind r h
 unfold r09_Universal at h
 refine spec_intro Tryd.func111 rfl (by decide +kernel) (by rfl) fun w0 S0 hT => ?_
 refine wsr ?_
 refine oT (t_alloc _ ze61 fun b1 => ?_)
 refine rnf ?_
 refine w_seq ?_
 refine wsr ?_
 refine oV (v_move rfl) ?_
 refine rnf ?_
 refine w_block ?_
 refine wsr ?_
 refine oV (v_eql rfl rfl) ?_
 refine oV (v_assign rfl) ?_
 refine rnf ?_
 refine w_condM h rfl (fun _ h => ?_) (fun _ h => ?_)
 ·
  refine wsr ?_
  refine oV (v_build (z := (Tag.mk (0 : Int) (1 : Int))) rfl bu61 ze61 (.cons Tag.f1 fd61_1 rfl (fun _ _ h => h) .nil)) ?_
  refine oT (t_storeC (y' := ((Tag.mk (0 : Int) (1 : Int)) : Tag)) ty61 rfl rfl (fun _ _ h => h) .here rfl ?_)
  refine rnf ?_
  refine w_ret ?_
  refine ret_block ?_
  refine ret_nxt ?_
  refine ret_post (.cell rfl .here ty61 .nil) .nil ?_
  obtain rfl := Option.some.inj h
  exact ⟨rfl, rfl⟩
 ·
  refine wsr ?_
  refine oV (v_eql rfl rfl) ?_
  refine oV (v_assign rfl) ?_
  refine rnf ?_
  refine w_condM h rfl (fun _ h => ?_) (fun _ h => ?_)
  ·
   refine wsr ?_
   refine oV (v_build (z := (Tag.mk (0 : Int) (2 : Int))) rfl bu61 ze61 (.cons Tag.f1 fd61_1 rfl (fun _ _ h => h) .nil)) ?_
   refine oT (t_storeC (y' := ((Tag.mk (0 : Int) (2 : Int)) : Tag)) ty61 rfl rfl (fun _ _ h => h) .here rfl ?_)
   refine rnf ?_
   refine w_ret ?_
   refine ret_block ?_
   refine ret_nxt ?_
   refine ret_post (.cell rfl .here ty61 .nil) .nil ?_
   obtain rfl := Option.some.inj h
   exact ⟨rfl, rfl⟩
  ·
   refine wsr ?_
   refine oV (v_eql rfl rfl) ?_
   refine oV (v_assign rfl) ?_
   refine rnf ?_
   refine w_condM h rfl (fun _ h => ?_) (fun _ h => ?_)
   ·
    refine wsr ?_
    refine oV (v_build (z := (Tag.mk (0 : Int) (4 : Int))) rfl bu61 ze61 (.cons Tag.f1 fd61_1 rfl (fun _ _ h => h) .nil)) ?_
    refine oT (t_storeC (y' := ((Tag.mk (0 : Int) (4 : Int)) : Tag)) ty61 rfl rfl (fun _ _ h => h) .here rfl ?_)
    refine rnf ?_
    refine w_ret ?_
    refine ret_block ?_
    refine ret_nxt ?_
    refine ret_post (.cell rfl .here ty61 .nil) .nil ?_
    obtain rfl := Option.some.inj h
    exact ⟨rfl, rfl⟩
   ·
    refine wsr ?_
    refine oV (v_eql rfl rfl) ?_
    refine oV (v_assign rfl) ?_
    refine rnf ?_
    refine w_condM h rfl (fun _ h => ?_) (fun _ h => ?_)
    ·
     refine wsr ?_
     refine oV (v_build (z := (Tag.mk (0 : Int) (5 : Int))) rfl bu61 ze61 (.cons Tag.f1 fd61_1 rfl (fun _ _ h => h) .nil)) ?_
     refine oT (t_storeC (y' := ((Tag.mk (0 : Int) (5 : Int)) : Tag)) ty61 rfl rfl (fun _ _ h => h) .here rfl ?_)
     refine rnf ?_
     refine w_ret ?_
     refine ret_block ?_
     refine ret_nxt ?_
     refine ret_post (.cell rfl .here ty61 .nil) .nil ?_
     obtain rfl := Option.some.inj h
     exact ⟨rfl, rfl⟩
    ·
     refine wsr ?_
     refine oV (v_eql rfl rfl) ?_
     refine oV (v_assign rfl) ?_
     refine rnf ?_
     refine w_condM h rfl (fun _ h => ?_) (fun _ h => ?_)
     ·
      refine wsr ?_
      refine oV (v_build (z := (Tag.mk (0 : Int) (10 : Int))) rfl bu61 ze61 (.cons Tag.f1 fd61_1 rfl (fun _ _ h => h) .nil)) ?_
      refine oT (t_storeC (y' := ((Tag.mk (0 : Int) (10 : Int)) : Tag)) ty61 rfl rfl (fun _ _ h => h) .here rfl ?_)
      refine rnf ?_
      refine w_ret ?_
      refine ret_block ?_
      refine ret_nxt ?_
      refine ret_post (.cell rfl .here ty61 .nil) .nil ?_
      obtain rfl := Option.some.inj h
      exact ⟨rfl, rfl⟩
     ·
      refine wsr ?_
      refine oV (v_eql rfl rfl) ?_
      refine oV (v_assign rfl) ?_
      refine rnf ?_
      refine w_condM h rfl (fun _ h => ?_) (fun _ h => ?_)
      ·
       refine wsr ?_
       refine oV (v_build (z := (Tag.mk (0 : Int) (12 : Int))) rfl bu61 ze61 (.cons Tag.f1 fd61_1 rfl (fun _ _ h => h) .nil)) ?_
       refine oT (t_storeC (y' := ((Tag.mk (0 : Int) (12 : Int)) : Tag)) ty61 rfl rfl (fun _ _ h => h) .here rfl ?_)
       refine rnf ?_
       refine w_ret ?_
       refine ret_block ?_
       refine ret_nxt ?_
       refine ret_post (.cell rfl .here ty61 .nil) .nil ?_
       obtain rfl := Option.some.inj h
       exact ⟨rfl, rfl⟩
      ·
       refine w_seq ?_
       refine wsr ?_
       refine oV (v_eql rfl rfl) ?_
       refine oV (v_assign rfl) ?_
       refine rnf ?_
       refine w_J (ι := Bool) (γ := Unit) (fun q2 g2 => [(22, isv (q2))]) (fun q2 g2 => []) .nil h (fun q2 g2 h => ?_) (fun J3 h hJ3 => ?_)
       ·
        refine w_condM h rfl (fun _ h => ?_) (fun _ h => ?_)
        ·
         refine wsr ?_
         refine oV (v_build (z := (Tag.mk (0 : Int) (16 : Int))) rfl bu61 ze61 (.cons Tag.f1 fd61_1 rfl (fun _ _ h => h) .nil)) ?_
         refine oT (t_storeC (y' := ((Tag.mk (0 : Int) (16 : Int)) : Tag)) ty61 rfl rfl (fun _ _ h => h) .here rfl ?_)
         refine rnf ?_
         refine w_ret ?_
         refine ret_block ?_
         refine ret_nxt ?_
         refine ret_post (.cell rfl .here ty61 .nil) .nil ?_
         obtain rfl := Option.some.inj h
         exact ⟨rfl, rfl⟩
        ·
         refine wsr ?_
         refine oV (v_eql rfl rfl) ?_
         refine oV (v_assign rfl) ?_
         refine rnf ?_
         refine w_condM h rfl (fun _ h => ?_) (fun _ h => ?_)
         ·
          refine wsr ?_
          refine oV (v_build (z := (Tag.mk (0 : Int) (17 : Int))) rfl bu61 ze61 (.cons Tag.f1 fd61_1 rfl (fun _ _ h => h) .nil)) ?_
          refine oT (t_storeC (y' := ((Tag.mk (0 : Int) (17 : Int)) : Tag)) ty61 rfl rfl (fun _ _ h => h) .here rfl ?_)
          refine rnf ?_
          refine w_ret ?_
          refine ret_block ?_
          refine ret_nxt ?_
          refine ret_post (.cell rfl .here ty61 .nil) .nil ?_
          obtain rfl := Option.some.inj h
          exact ⟨rfl, rfl⟩
         ·
          refine w_skip ?_
          refine fin_block ?_
          refine fin_nxt ?_
          refine wsr ?_
          refine oV (v_build (z := (Tag.mk (0 : Int) (0 : Int))) rfl bu61 ze61 .nil) ?_
          refine oT (t_storeC (y' := ((Tag.mk (0 : Int) (0 : Int)) : Tag)) ty61 rfl rfl (fun _ _ h => h) .here rfl ?_)
          refine rnf ?_
          refine w_ret ?_
          refine ret_post (.cell rfl .here ty61 .nil) .nil ?_
          obtain rfl := Option.some.inj h
          exact ⟨rfl, rfl⟩
       ·
        refine w_condM h rfl (fun _ h => ?_) (fun _ h => ?_)
        ·
         refine w_skip ?_
         exact hJ3 _ () h _ (join_imp 0 rfl rfl (mod_cons (j := 22) rfl (fun _ _ h => h) mod_nil) (.cons .here .nil))
        ·
         refine w_region ?_
         refine oV (v_eql rfl rfl) ?_
         refine oV (v_assign rfl) ?_
         refine rl_nil ?_
         exact hJ3 _ () h _ (join_imp 2 rfl rfl (mod_cons (j := 22) rfl (fun _ _ h => h) mod_nil) (.cons .here .nil))


theorem r08_Check_w : ∀ {a_c : GCon} {a_size : Bool} {r : Int}, r08_Check a_c a_size = some r → Ctr Tryd.prog 112 [isv (a_c), isv (a_size)] [] (fun R H => R = oneOf [isv (r)] ∧ H = []) := by
 intro a_c a_size r h
 unfold r08_Check at h
 refine spec_intro Tryd.func112 rfl (by decide +kernel) (by rfl) fun w0 S0 hT => ?_
 refine wsr ?_
 refine oT (t_boxIC (y := a_c) rfl (fun _ _ h => h) ?_)
 refine oV (v_assign rfl) ?_
 refine rnf ?_
 refine w_seq ?_
 refine wsr ?_
 refine oV (v_fi rfl GCon.f0 fd54_0 rfl (z := a_c.has)) ?_
 refine oV (v_loadI ty4 rfl) ?_
 refine oV (v_not rfl) ?_
 refine rnf ?_
 refine w_condM h rfl (fun _ h => ?_) (fun _ h => ?_)
 ·
  refine wsr ?_
  refine oV (v_assign rfl) ?_
  refine rnf ?_
  refine w_ret ?_
  refine ret_nxt ?_
  refine ret_post (.tmp rfl .nil) .nil ?_
  obtain rfl := Option.some.inj h
  exact ⟨rfl, rfl⟩
 ·
  refine wkf ?_
  refine w_seq ?_
  refine wsr ?_
  refine oV (v_fi rfl GCon.f1 fd54_1 rfl (z := a_c.hasLow)) ?_
  refine oV (v_loadI ty4 rfl) ?_
  refine oV (v_move rfl) ?_
  refine rl_j (ι := Bool) (γ := Unit) (fun q1 g1 => [(13, isv (q1))]) (fun q1 g1 => []) .nil h 3 rfl (fun q1 g1 h => ?_) (fun J2 h hJ2 => ?_)
  ·
   refine oV (v_move rfl) ?_
   refine rl_j (ι := Bool) (γ := Unit) (fun q4 g4 => [(20, isv (q4))]) (fun q4 g4 => []) .nil h 6 rfl (fun q4 g4 h => ?_) (fun J5 h hJ5 => ?_)
   ·
    refine rnf ?_
    refine w_condM h rfl (fun _ h => ?_) (fun _ h => ?_)
    ·
     refine wsr ?_
     refine oV (v_assign rfl) ?_
     refine rnf ?_
     refine w_ret ?_
     refine ret_nxt ?_
     refine ret_post (.tmp rfl .nil) .nil ?_
     obtain rfl := Option.some.inj h
     exact ⟨rfl, rfl⟩
    ·
     refine wkf ?_
     refine w_seq ?_
     refine wsr ?_
     refine oV (v_move rfl) ?_
     refine oV (v_move rfl) ?_
     refine rl_j (ι := Bool) (γ := Unit) (fun q7 g7 => [(50, isv (q7))]) (fun q7 g7 => []) .nil h 28 rfl (fun q7 g7 h => ?_) (fun J8 h hJ8 => ?_)
     ·
      refine rnf ?_
      refine w_condM h rfl (fun _ h => ?_) (fun _ h => ?_)
      ·
       refine wsr ?_
       refine oV (v_assign rfl) ?_
       refine rnf ?_
       refine w_ret ?_
       refine ret_nxt ?_
       refine ret_post (.tmp rfl .nil) .nil ?_
       obtain rfl := Option.some.inj h
       exact ⟨rfl, rfl⟩
      ·
       refine wkf ?_
       refine wsr ?_
       refine oV (v_assign rfl) ?_
       refine rnf ?_
       refine w_ret ?_
       refine ret_post (.tmp rfl .nil) .nil ?_
       obtain rfl := Option.some.inj h
       exact ⟨rfl, rfl⟩
     ·
      refine rl_condM (j := 22) h rfl (fun g9 h => ?_) (fun g9 h => ?_)
      ·
       refine op_take rfl rfl (dj := 22) rfl g9 (OpV.t (v_fi rfl GCon.f1 fd54_1 rfl (z := a_c.hasLow)) ?_)
       refine op_take rfl rfl (dj := 22) rfl g9 (OpV.t (v_loadI ty4 rfl) ?_)
       refine op_take rfl rfl (dj := 22) rfl g9 (OpV.t (v_not rfl) ?_)
       refine op_take rfl rfl (dj := 22) rfl g9 (OpV.t (v_move rfl) ?_)
       refine rl_j (ι := Bool) (γ := Unit) (fun q10 g10 => [(30, isv (q10))]) (fun q10 g10 => []) .nil h 4 rfl (fun q10 g10 h => ?_) (fun J11 h hJ11 => ?_)
       ·
        refine op_take rfl rfl (dj := 22) rfl g9 (OpV.t (v_move rfl) ?_)
        refine rl_j (ι := Bool) (γ := Unit) (fun q13 g13 => [(35, isv (q13))]) (fun q13 g13 => []) .nil h 4 rfl (fun q13 g13 h => ?_) (fun J14 h hJ14 => ?_)
        ·
         refine op_take rfl rfl (dj := 22) rfl g9 (OpV.t (v_move rfl) ?_)
         refine rl_j (ι := Bool) (γ := Unit) (fun q16 g16 => [(49, isv (q16))]) (fun q16 g16 => []) .nil h 13 rfl (fun q16 g16 h => ?_) (fun J17 h hJ17 => ?_)
         ·
          refine oV (v_pick_t rfl g9 rfl) ?_
          exact hJ8 _ () h _ (join_imp 10 rfl rfl (mod_cons (j := 50) rfl (fun _ _ h => h) mod_nil) .nil)
         ·
          refine rl_condM (j := 36) h rfl (fun g18 h => ?_) (fun g18 h => ?_)
          ·
           refine op_pass rfl (dj := 36) rfl g18 ?_
           refine op_pass rfl (dj := 36) rfl g18 ?_
           refine op_pass rfl (dj := 36) rfl g18 ?_
           refine op_passU rfl (dj := 39) rfl ?_
           refine op_passU rfl (dj := 39) rfl ?_
           refine op_passU rfl (dj := 39) rfl ?_
           refine op_passU rfl (dj := 39) rfl ?_
           refine op_passU rfl (dj := 43) rfl ?_
           refine op_passU rfl (dj := 43) rfl ?_
           refine op_passU rfl (dj := 43) rfl ?_
           refine op_passU rfl (dj := 39) rfl ?_
           refine op_pass rfl (dj := 36) rfl g18 ?_
           refine op_take rfl rfl (dj := 22) rfl g9 (OpV.t (v_pick_t rfl g18 rfl) ?_)
           exact hJ17 _ () h _ (join_imp 13 rfl rfl (mod_cons (j := 49) rfl (fun _ _ h => h) mod_nil) .nil)
          ·
           refine op_take rfl rfl (dj := 36) rfl g18 (OpV.t (v_fi rfl GCon.f2 fd54_2 rfl (z := a_c.hasHigh)) ?_)
           refine op_take rfl rfl (dj := 36) rfl g18 (OpV.t (v_loadI ty4 rfl) ?_)
           refine op_take rfl rfl (dj := 36) rfl g18 (OpV.t (v_move rfl) ?_)
           refine rl_j (ι := Bool) (γ := Unit) (fun q19 g19 => [(48, isv (q19))]) (fun q19 g19 => []) .nil h 9 rfl (fun q19 g19 h => ?_) (fun J20 h hJ20 => ?_)
           ·
            refine op_take rfl rfl (dj := 22) rfl g9 (OpV.t (v_pick_f rfl g18 rfl) ?_)
            exact hJ17 _ () h _ (join_imp 5 rfl rfl (mod_cons (j := 49) rfl (fun _ _ h => h) mod_nil) .nil)
           ·
            refine rl_condM (j := 39) h rfl (fun g21 h => ?_) (fun g21 h => ?_)
            ·
             refine op_take rfl rfl (dj := 39) rfl g21 (OpV.t (v_fi rfl GCon.f5 fd54_5 rfl (z := a_c.high)) ?_)
             refine op_take rfl rfl (dj := 39) rfl g21 (OpV.t (v_loadI ty2 rfl) ?_)
             refine op_take rfl rfl (dj := 39) rfl g21 (OpV.t (v_lss rfl rfl) ?_)
             refine op_take rfl rfl (dj := 39) rfl g21 (OpV.t (v_move rfl) ?_)
             refine rl_j (ι := Bool) (γ := Unit) (fun q22 g22 => [(47, isv (q22))]) (fun q22 g22 => []) .nil h 4 rfl (fun q22 g22 h => ?_) (fun J23 h hJ23 => ?_)
             ·
              refine op_take rfl rfl (dj := 36) rfl g18 (OpV.t (v_pick_t rfl g21 rfl) ?_)
              exact hJ20 _ () h _ (join_imp 6 rfl rfl (mod_cons (j := 48) rfl (fun _ _ h => h) mod_nil) .nil)
             ·
              refine rl_condM (j := 43) h rfl (fun g24 h => ?_) (fun g24 h => ?_)
              ·
               refine op_pass rfl (dj := 43) rfl g24 ?_
               refine op_pass rfl (dj := 43) rfl g24 ?_
               refine op_pass rfl (dj := 43) rfl g24 ?_
               refine op_take rfl rfl (dj := 39) rfl g21 (OpV.t (v_pick_t rfl g24 rfl) ?_)
               exact hJ23 _ () h _ (join_imp 4 rfl rfl (mod_cons (j := 47) rfl (fun _ _ h => h) mod_nil) .nil)
              ·
               refine op_take rfl rfl (dj := 43) rfl g24 (OpV.t (v_fi rfl GCon.f5 fd54_5 rfl (z := a_c.high)) ?_)
               refine op_take rfl rfl (dj := 43) rfl g24 (OpV.t (v_loadI ty2 rfl) ?_)
               refine op_take rfl rfl (dj := 43) rfl g24 (OpV.t (v_gtr rfl rfl) ?_)
               refine op_take rfl rfl (dj := 39) rfl g21 (OpV.t (v_pick_f rfl g24 rfl) ?_)
               exact hJ23 _ () h _ (join_imp 4 rfl rfl (mod_cons (j := 47) rfl (fun _ _ h => h) mod_nil) .nil)
            ·
             refine op_pass rfl (dj := 39) rfl g21 ?_
             refine op_pass rfl (dj := 39) rfl g21 ?_
             refine op_pass rfl (dj := 39) rfl g21 ?_
             refine op_pass rfl (dj := 39) rfl g21 ?_
             refine op_passU rfl (dj := 43) rfl ?_
             refine op_passU rfl (dj := 43) rfl ?_
             refine op_passU rfl (dj := 43) rfl ?_
             refine op_pass rfl (dj := 39) rfl g21 ?_
             refine op_take rfl rfl (dj := 36) rfl g18 (OpV.t (v_pick_f rfl g21 rfl) ?_)
             exact hJ20 _ () h _ (join_imp 9 rfl rfl (mod_cons (j := 48) rfl (fun _ _ h => h) mod_nil) .nil)
        ·
         refine rl_condM (j := 31) h rfl (fun g15 h => ?_) (fun g15 h => ?_)
         ·
          refine op_pass rfl (dj := 31) rfl g15 ?_
          refine op_pass rfl (dj := 31) rfl g15 ?_
          refine op_pass rfl (dj := 31) rfl g15 ?_
          refine op_take rfl rfl (dj := 22) rfl g9 (OpV.t (v_pick_t rfl g15 rfl) ?_)
          exact hJ14 _ () h _ (join_imp 4 rfl rfl (mod_cons (j := 35) rfl (fun _ _ h => h) mod_nil) .nil)
         ·
          refine op_take rfl rfl (dj := 31) rfl g15 (OpV.t (v_fi rfl GCon.f4 fd54_4 rfl (z := a_c.low)) ?_)
          refine op_take rfl rfl (dj := 31) rfl g15 (OpV.t (v_loadI ty2 rfl) ?_)
          refine op_take rfl rfl (dj := 31) rfl g15 (OpV.t (v_gtr rfl rfl) ?_)
          refine op_take rfl rfl (dj := 22) rfl g9 (OpV.t (v_pick_f rfl g15 rfl) ?_)
          exact hJ14 _ () h _ (join_imp 4 rfl rfl (mod_cons (j := 35) rfl (fun _ _ h => h) mod_nil) .nil)
       ·
        refine rl_condM (j := 26) h rfl (fun g12 h => ?_) (fun g12 h => ?_)
        ·
         refine op_pass rfl (dj := 26) rfl g12 ?_
         refine op_pass rfl (dj := 26) rfl g12 ?_
         refine op_pass rfl (dj := 26) rfl g12 ?_
         refine op_take rfl rfl (dj := 22) rfl g9 (OpV.t (v_pick_t rfl g12 rfl) ?_)
         exact hJ11 _ () h _ (join_imp 4 rfl rfl (mod_cons (j := 30) rfl (fun _ _ h => h) mod_nil) .nil)
        ·
         refine op_take rfl rfl (dj := 26) rfl g12 (OpV.t (v_fi rfl GCon.f4 fd54_4 rfl (z := a_c.low)) ?_)
         refine op_take rfl rfl (dj := 26) rfl g12 (OpV.t (v_loadI ty2 rfl) ?_)
         refine op_take rfl rfl (dj := 26) rfl g12 (OpV.t (v_lss rfl rfl) ?_)
         refine op_take rfl rfl (dj := 22) rfl g9 (OpV.t (v_pick_f rfl g12 rfl) ?_)
         exact hJ11 _ () h _ (join_imp 4 rfl rfl (mod_cons (j := 30) rfl (fun _ _ h => h) mod_nil) .nil)
      ·
       refine op_pass rfl (dj := 22) rfl g9 ?_
       refine op_pass rfl (dj := 22) rfl g9 ?_
       refine op_pass rfl (dj := 22) rfl g9 ?_
       refine op_pass rfl (dj := 22) rfl g9 ?_
       refine op_passU rfl (dj := 26) rfl ?_
       refine op_passU rfl (dj := 26) rfl ?_
       refine op_passU rfl (dj := 26) rfl ?_
       refine op_pass rfl (dj := 22) rfl g9 ?_
       refine op_pass rfl (dj := 22) rfl g9 ?_
       refine op_passU rfl (dj := 31) rfl ?_
       refine op_passU rfl (dj := 31) rfl ?_
       refine op_passU rfl (dj := 31) rfl ?_
       refine op_pass rfl (dj := 22) rfl g9 ?_
       refine op_pass rfl (dj := 22) rfl g9 ?_
       refine op_passU rfl (dj := 36) rfl ?_
       refine op_passU rfl (dj := 36) rfl ?_
       refine op_passU rfl (dj := 36) rfl ?_
       refine op_passU rfl (dj := 39) rfl ?_
       refine op_passU rfl (dj := 39) rfl ?_
       refine op_passU rfl (dj := 39) rfl ?_
       refine op_passU rfl (dj := 39) rfl ?_
       refine op_passU rfl (dj := 43) rfl ?_
       refine op_passU rfl (dj := 43) rfl ?_
       refine op_passU rfl (dj := 43) rfl ?_
       refine op_passU rfl (dj := 39) rfl ?_
       refine op_passU rfl (dj := 36) rfl ?_
       refine op_pass rfl (dj := 22) rfl g9 ?_
       refine oV (v_pick_f rfl g9 rfl) ?_
       exact hJ8 _ () h _ (join_imp 28 rfl rfl (mod_cons (j := 50) rfl (fun _ _ h => h) mod_nil) .nil)
   ·
    refine rl_condM (j := 14) h rfl (fun g6 h => ?_) (fun g6 h => ?_)
    ·
     refine op_take rfl rfl (dj := 14) rfl g6 (OpV.t (v_fi rfl GCon.f4 fd54_4 rfl (z := a_c.low)) ?_)
     refine op_take rfl rfl (dj := 14) rfl g6 (OpV.t (v_loadI ty2 rfl) ?_)
     refine op_take rfl rfl (dj := 14) rfl g6 (OpV.t (v_fi rfl GCon.f5 fd54_5 rfl (z := a_c.high)) ?_)
     refine op_take rfl rfl (dj := 14) rfl g6 (OpV.t (v_loadI ty2 rfl) ?_)
     refine op_take rfl rfl (dj := 14) rfl g6 (OpV.t (v_gtr rfl rfl) ?_)
     refine oV (v_pick_t rfl g6 rfl) ?_
     exact hJ5 _ () h _ (join_imp 6 rfl rfl (mod_cons (j := 20) rfl (fun _ _ h => h) mod_nil) .nil)
    ·
     refine op_pass rfl (dj := 14) rfl g6 ?_
     refine op_pass rfl (dj := 14) rfl g6 ?_
     refine op_pass rfl (dj := 14) rfl g6 ?_
     refine op_pass rfl (dj := 14) rfl g6 ?_
     refine op_pass rfl (dj := 14) rfl g6 ?_
     refine oV (v_pick_f rfl g6 rfl) ?_
     exact hJ5 _ () h _ (join_imp 6 rfl rfl (mod_cons (j := 20) rfl (fun _ _ h => h) mod_nil) .nil)
  ·
   refine rl_condM (j := 10) h rfl (fun g3 h => ?_) (fun g3 h => ?_)
   ·
    refine op_take rfl rfl (dj := 10) rfl g3 (OpV.t (v_fi rfl GCon.f2 fd54_2 rfl (z := a_c.hasHigh)) ?_)
    refine op_take rfl rfl (dj := 10) rfl g3 (OpV.t (v_loadI ty4 rfl) ?_)
    refine oV (v_pick_t rfl g3 rfl) ?_
    exact hJ2 _ () h _ (join_imp 3 rfl rfl (mod_cons (j := 13) rfl (fun _ _ h => h) mod_nil) .nil)
   ·
    refine op_pass rfl (dj := 10) rfl g3 ?_
    refine op_pass rfl (dj := 10) rfl g3 ?_
    refine oV (v_pick_f rfl g3 rfl) ?_
    exact hJ2 _ () h _ (join_imp 3 rfl rfl (mod_cons (j := 13) rfl (fun _ _ h => h) mod_nil) .nil)


theorem r10_taken_w : ∀ {a_l : (List GItem)} {a_v : Int} {r : Bool}, r10_taken a_l a_v = some r → Ctr Tryd.prog 124 [isv (a_l), isv (a_v)] [] (fun R H => R = oneOf [isv (r)] ∧ H = []) := by
 intro a_l a_v r h
 unfold r10_taken at h
 refine spec_intro Tryd.func124 rfl (by decide +kernel) (by rfl) fun w0 S0 hT => ?_
 refine wsr ?_
 refine oV (v_assign rfl) ?_
 refine rnf ?_
 refine w_seq ?_
 refine wsr ?_
 refine oV (v_assign rfl) ?_
 refine rnf ?_
 refine w_block ?_
 refine w_lp (ι := Int) (γ := Unit) (fun q1 g1 => [(5, isv (q1))]) (fun q1 g1 => []) h () (mod_cons (j := 5) rfl (fun _ _ h => h) mod_nil) .nil (fun L2 q1 g1 Q15 h hL2 eL2 rL2 => ?_)
 refine w_seq ?_
 refine wsr ?_
 refine oV (v_move rfl) ?_
 refine oV (v_move rfl) ?_
 refine oV (v_ln (l := a_l) rfl (fun _ _ h => h) sl55) ?_
 refine oV (v_lss rfl rfl) ?_
 refine rnf ?_
 refine w_condM h rfl (fun _ h => ?_) (fun _ h => ?_)
 ·
  refine wkf ?_
  refine w_seq ?_
  refine w_block ?_
  refine wsr ?_
  refine oV (v_move rfl) ?_
  refine oV (v_move rfl) ?_
  refine cal_inv h fun y9 hy9 h => ?_
  refine oV (v_ix (l := a_l) rfl (fun _ _ h => h) rfl sl55 hy9) ?_
  refine oV (v_fi rfl GItem.f2 fd71_2 rfl (z := y9.has)) ?_
  refine oV (v_loadI ty4 rfl) ?_
  refine oV (v_move rfl) ?_
  refine rl_j (ι := Bool) (γ := Unit) (fun q10 g10 => [(25, isv (q10))]) (fun q10 g10 => []) .nil h 8 rfl (fun q10 g10 h => ?_) (fun J11 h hJ11 => ?_)
  ·
   refine rnf ?_
   refine w_condM h rfl (fun _ h => ?_) (fun _ h => ?_)
   ·
    refine wsr ?_
    refine oV (v_assign rfl) ?_
    refine rnf ?_
    refine w_ret ?_
    refine ret_block ?_
    refine ret_nxt ?_
    refine rL2 _ ?_
    refine ret_block ?_
    refine ret_nxt ?_
    refine ret_post (.tmp rfl .nil) .nil ?_
    obtain rfl := Option.some.inj h
    exact ⟨rfl, rfl⟩
   ·
    refine w_skip ?_
    refine fin_block ?_
    refine fin_nxt ?_
    refine w_region ?_
    refine oV (v_move rfl) ?_
    refine ck_inv h fun q14 h => ?_
    refine oV (v_add rfl rfl q14) ?_
    refine oV (v_assign rfl) ?_
    refine rl_nil ?_
    exact hL2 _ () h _ (join_imp 15 rfl rfl (mod_cons (j := 5) rfl (fun _ _ h => h) mod_nil) .nil)
  ·
   refine rl_condM (j := 17) h rfl (fun g12 h => ?_) (fun g12 h => ?_)
   ·
    refine op_take rfl rfl (dj := 17) rfl g12 (OpV.t (v_move rfl) ?_)
    refine op_take rfl rfl (dj := 17) rfl g12 (OpV.t (v_move rfl) ?_)
    refine cal_inv h fun y13 hy13 h => ?_
    refine op_take rfl rfl (dj := 17) rfl g12 (OpV.t (v_ix (l := a_l) rfl (fun _ _ h => h) rfl sl55 hy13) ?_)
    refine op_take rfl rfl (dj := 17) rfl g12 (OpV.t (v_fi rfl GItem.f1 fd71_1 rfl (z := y13.number)) ?_)
    refine op_take rfl rfl (dj := 17) rfl g12 (OpV.t (v_loadI ty2 rfl) ?_)
    refine op_take rfl rfl (dj := 17) rfl g12 (OpV.t (v_move rfl) ?_)
    refine op_take rfl rfl (dj := 17) rfl g12 (OpV.t (v_eql rfl rfl) ?_)
    refine oV (v_pick_t rfl g12 rfl) ?_
    exact hJ11 _ () h _ (join_imp 8 rfl rfl (mod_cons (j := 25) rfl (fun _ _ h => h) mod_nil) .nil)
   ·
    refine op_pass rfl (dj := 17) rfl g12 ?_
    refine op_pass rfl (dj := 17) rfl g12 ?_
    refine op_pass rfl (dj := 17) rfl g12 ?_
    refine op_pass rfl (dj := 17) rfl g12 ?_
    refine op_pass rfl (dj := 17) rfl g12 ?_
    refine op_pass rfl (dj := 17) rfl g12 ?_
    refine op_pass rfl (dj := 17) rfl g12 ?_
    refine oV (v_pick_f rfl g12 rfl) ?_
    exact hJ11 _ () h _ (join_imp 8 rfl rfl (mod_cons (j := 25) rfl (fun _ _ h => h) mod_nil) .nil)
 ·
  refine w_exit ?_
  refine exi_nxt ?_
  refine eL2 _ _ ?_
  refine exi_block ?_
  refine fin_nxt ?_
  refine wsr ?_
  refine oV (v_assign rfl) ?_
  refine rnf ?_
  refine w_ret ?_
  refine ret_post (.tmp rfl .nil) .nil ?_
  obtain rfl := Option.some.inj h
  exact ⟨rfl, rfl⟩

end Go.Proofs.YtajbipkppngccaaDoor


namespace Go.Proofs.YtajbipkppngccaaDoor
open Go.Sy
set_option maxRecDepth 4000
theorem r10_maker_items_w : ∀ {a_x : GMk} {a_n_ : GNode} {b_a_x : Nat} {v_a_x1 : Vt} {r : (List GItem) × GMk}, r10_maker_items a_x a_n_ = some r → Ctr Tryd.prog 113 [ptrv b_a_x (Fld.id (GMod × Vh × Int)), isv (a_n_)] [boxE b_a_x ((a_x.m, (Vh.mk v_a_x1 a_x.l.length), a_x.e) : (GMod × Vh × Int)), vecE v_a_x1 (a_x.l : List GTyp)] (fun R H => R = oneOf [isv (r.1)] ∧ H = [boxE b_a_x ((r.2.m, (Vh.mk v_a_x1 r.2.l.length), r.2.e)), vecE v_a_x1 (r.2.l)]) := by
 intro a_x a_n_ b_a_x v_a_x1 r h
 unfold r10_maker_items at h
 refine spec_intro Tryd.func113 rfl (by decide +kernel) (by rfl) fun w0 S0 hT => ?_
 refine wsr ?_
 refine oT (t_boxIC (y := a_n_) rfl (fun _ _ h => h) ?_)
 refine oV (v_assign rfl) ?_
 refine rnf ?_
 refine wsr ?_
 refine oV (v_assign rfl) ?_
 refine rnf ?_
 refine wsr ?_
 refine oV (v_assign rfl) ?_
 refine rnf ?_
 refine w_seq ?_
 refine wsr ?_
 refine oV (v_assign rfl) ?_
 refine rnf ?_
 refine w_block ?_
 refine w_upd (upd_tok) ?_
 refine w_lp (ι := (List GItem) × Int × Int) (γ := Tok) (fun q2 g2 => [(5, appv g2 (q2.1)), (6, isv (q2.2.1)), (7, isv (q2.2.2))]) (fun q2 g2 => [tokE g2]) h (none) (mod_cons (j := 5) rfl nilv_appv (mod_cons (j := 6) rfl (fun _ _ h => h) (mod_cons (j := 7) rfl (fun _ _ h => h) mod_nil))) (.cons .here .nil) (fun L3 q2 g2 Q666 h hL3 eL3 rL3 => ?_)
 refine w_seq ?_
 refine wsr ?_
 refine oV (v_move rfl) ?_
 refine oV (v_fi rfl GNode.f6 fd133_6 rfl (z := a_n_.root)) ?_
 refine oV (v_loadI ty3 rfl) ?_
 refine oV (v_lss rfl rfl) ?_
 refine rnf ?_
 refine w_condM h rfl (fun _ h => ?_) (fun _ h => ?_)
 ·
  refine wkf ?_
  refine w_seq ?_
  refine w_block ?_
  refine wsr ?_
  refine oV (v_fi rfl GNode.f4 fd133_4 rfl (z := a_n_.items)) ?_
  refine oV (v_loadI ty55 rfl) ?_
  refine oV (v_move rfl) ?_
  refine cal_inv h fun y335 hy335 h => ?_
  refine oV (v_ix (l := a_n_.items) rfl (fun _ _ h => h) rfl sl55 hy335) ?_
  refine oV (v_loadI ty71 rfl) ?_
  refine oT (t_alloc _ ze71 fun b336 => ?_)
  refine oT (t_storeC (y' := (y335 : GItem)) ty71 rfl rfl (fun _ _ h => h) .here rfl ?_)
  refine rnf ?_
  refine w_seq ?_
  refine wsr ?_
  refine oV (v_fa rfl GItem.f2 fd71_2) ?_
  refine oT (t_loadC (R := isv (y335.has)) ty4 rfl .here (fun _ _ h => h) ?_)
  refine oV (v_not rfl) ?_
  refine rnf ?_
  refine w_J (ι := Int × GItem) (γ := Unit) (fun q337 g337 => [(6, isv (q337.1))]) (fun q337 g337 => [boxE b336 (q337.2 : GItem)]) (.cons .here .nil) h (fun q337 g337 h => ?_) (fun J338 h hJ338 => ?_)
  ·
   refine wsr ?_
   refine oV (v_fa rfl GItem.f2 fd71_2) ?_
   refine oT (t_storeC (y' := ({ q337.2 with has := false } : GItem)) ty4 rfl rfl (fun _ _ h => h) .here rfl ?_)
   refine rnf ?_
   refine w_region ?_
   refine oV (v_move rfl) ?_
   refine oT (t_loadC (R := isv ({ q337.2 with has := false })) ty71 rfl .here (fun _ _ h => h) ?_)
   refine oT (t_buildSlice (l := ([{ q337.2 with has := false }] : (List GItem))) el55 (.cons rfl (fun _ _ h => h) .nil) rfl rfl ?_)
   refine asr_inv h fun q352 h => ?_
   refine oT (t_appC (l := q2.1) (m := ([{ q337.2 with has := false }] : (List GItem))) ap55_55 rfl (fun _ _ h => h) rfl appv_isv (.there .here) q352 fun t351 => ?_)
   refine oV (v_assign rfl) ?_
   refine rl_nil ?_
   refine fin_block ?_
   refine fin_nxt ?_
   refine w_region ?_
   refine oV (v_move rfl) ?_
   refine ck_inv h fun q353 h => ?_
   refine oV (v_add rfl rfl q353) ?_
   refine oV (v_assign rfl) ?_
   refine rl_nil ?_
   exact hL3 _ (t351) h _ (join_imp 26 rfl rfl (mod_cons (j := 5) rfl (fun _ _ h => h) (mod_cons (j := 6) rfl (fun _ _ h => h) (mod_cons (j := 7) rfl (fun _ _ h => h) mod_nil))) (.cons .here (.cons (.there .here) (.cons (.there .here) .nil))))
  ·
   refine w_condM h rfl (fun _ h => ?_) (fun _ h => ?_)
   ·
    refine w_seq ?_
    refine w_block ?_
    refine w_lp (ι := Int) (γ := Unit) (fun q339 g339 => [(6, isv (q339))]) (fun q339 g339 => []) h () (mod_cons (j := 6) rfl (fun _ _ h => h) mod_nil) .nil (fun L340 q339 g339 Q349 h hL340 eL340 rL340 => ?_)
    refine w_seq ?_
    refine wsr ?_
    refine oV (v_fi rfl GNode.f4 fd133_4 rfl (z := a_n_.items)) ?_
    refine oV (v_loadI ty55 rfl) ?_
    refine oV (v_fi rfl GNode.f6 fd133_6 rfl (z := a_n_.root)) ?_
    refine oV (v_loadI ty3 rfl) ?_
    refine asd_inv h fun q345 h => ?_
    refine oV (v_sl (l := a_n_.items) rfl (fun _ _ h => h) sl55 (.inl ⟨rfl, rfl⟩) (.inr ⟨_, rfl, rfl⟩) q345.1 q345.2.1 q345.2.2) ?_
    refine oV (v_move rfl) ?_
    refine cal_inv h fun y346 hy346 h => ?_
    refine oT (t_call (r10_taken_w hy346) hT (.same rfl (.same rfl .nil)) .nil (fun R H' hR => ?_))
    obtain ⟨rfl, rfl⟩ := hR
    refine rnf ?_
    refine w_condM h rfl (fun _ h => ?_) (fun _ h => ?_)
    ·
     refine wkf ?_
     refine w_block ?_
     refine w_region ?_
     refine oV (v_move rfl) ?_
     refine ck_inv h fun q347 h => ?_
     refine oV (v_add rfl rfl q347) ?_
     refine oV (v_assign rfl) ?_
     refine rl_nil ?_
     refine fin_block ?_
     exact hL340 _ () h _ (join_imp 11 rfl rfl (mod_cons (j := 6) rfl (fun _ _ h => h) mod_nil) (.cons .here (.cons .here (.cons .here (.cons .here .nil)))))
    ·
     refine w_exit ?_
     refine exi_nxt ?_
     refine eL340 _ _ ?_
     refine exi_block ?_
     refine fin_nxt ?_
     refine wsr ?_
     refine oV (v_move rfl) ?_
     refine oV (v_fa rfl GItem.f1 fd71_1) ?_
     refine oT (t_storeC (y' := ({ y335 with number := q339 } : GItem)) ty2 rfl rfl (fun _ _ h => h) .here rfl ?_)
     refine rnf ?_
     refine w_region ?_
     refine oV (v_move rfl) ?_
     refine ck_inv h fun q348 h => ?_
     refine oV (v_add rfl rfl q348) ?_
     refine oV (v_assign rfl) ?_
     refine rl_nil ?_
     exact hJ338 _ () h _ (join_imp 13 rfl rfl (mod_cons (j := 6) rfl (fun _ _ h => h) mod_nil) (.cons .here (.cons .here (.cons .here (.cons .here .nil)))))
   ·
    refine w_skip ?_
    exact hJ338 _ () h _ (join_imp 0 rfl rfl (mod_cons (j := 6) rfl (fun _ _ h => h) mod_nil) (.cons .here (.cons .here (.cons .here (.cons .here .nil)))))
 ·
  refine w_exit ?_
  refine exi_nxt ?_
  refine eL3 _ _ ?_
  refine exi_block ?_
  refine fin_nxt ?_
  refine wsr ?_
  refine oV (v_assign rfl) ?_
  refine rnf ?_
  refine wsr ?_
  refine oV (v_assign rfl) ?_
  refine oV (v_assign rfl) ?_
  refine rnf ?_
  refine w_seq ?_
  refine wsr ?_
  refine oV (v_fi rfl GNode.f6 fd133_6 rfl (z := a_n_.root)) ?_
  refine oV (v_loadI ty3 rfl) ?_
  refine oV (v_assign rfl) ?_
  refine rnf ?_
  refine w_block ?_
  refine w_lp (ι := (List GItem) × Int × Bool × Bool × Int) (γ := Tok) (fun q354 g354 => [(5, appv g354 (q354.1)), (9, isv (q354.2.1)), (10, isv (q354.2.2.1)), (11, isv (q354.2.2.2.1)), (12, isv (q354.2.2.2.2))]) (fun q354 g354 => [tokE g354]) h (g2) (mod_cons (j := 5) rfl (fun _ _ h => h) (mod_cons (j := 9) rfl (fun _ _ h => h) (mod_cons (j := 10) rfl (fun _ _ h => h) (mod_cons (j := 11) rfl (fun _ _ h => h) (mod_cons (j := 12) rfl (fun _ _ h => h) mod_nil))))) (.cons .here .nil) (fun L355 q354 g354 Q664 h hL355 eL355 rL355 => ?_)
  refine w_seq ?_
  refine wsr ?_
  refine oV (v_move rfl) ?_
  refine oV (v_fi rfl GNode.f4 fd133_4 rfl (z := a_n_.items)) ?_
  refine oV (v_loadI ty55 rfl) ?_
  refine oV (v_ln (l := a_n_.items) rfl (fun _ _ h => h) sl55) ?_
  refine oV (v_lss rfl rfl) ?_
  refine rnf ?_
  refine w_condM h rfl (fun _ h => ?_) (fun _ h => ?_)
  ·
   refine wkf ?_
   refine w_seq ?_
   refine w_block ?_
   refine wsr ?_
   refine oV (v_fi rfl GNode.f4 fd133_4 rfl (z := a_n_.items)) ?_
   refine oV (v_loadI ty55 rfl) ?_
   refine oV (v_move rfl) ?_
   refine cal_inv h fun y558 hy558 h => ?_
   refine oV (v_ix (l := a_n_.items) rfl (fun _ _ h => h) rfl sl55 hy558) ?_
   refine oV (v_loadI ty71 rfl) ?_
   refine oT (t_alloc _ ze71 fun b559 => ?_)
   refine oT (t_storeC (y' := (y558 : GItem)) ty71 rfl rfl (fun _ _ h => h) .here rfl ?_)
   refine rnf ?_
   refine w_seq ?_
   refine wsr ?_
   refine oV (v_fa rfl GItem.f2 fd71_2) ?_
   refine oT (t_loadC (R := isv (y558.has)) ty4 rfl .here (fun _ _ h => h) ?_)
   refine oV (v_not rfl) ?_
   refine rnf ?_
   refine w_J (ι := GItem) (γ := Unit) (fun q560 g560 => [(13, ptrv b559 (Fld.id GItem))]) (fun q560 g560 => [boxE b559 (q560 : GItem)]) (.cons .here .nil) h (fun q560 g560 h => ?_) (fun J561 h hJ561 => ?_)
   ·
    refine wsr ?_
    refine oV (v_move rfl) ?_
    refine oV (v_move rfl) ?_
    refine rl_j (ι := Bool) (γ := Unit) (fun q591 g591 => [(109, isv (q591))]) (fun q591 g591 => []) .nil h 8 rfl (fun q591 g591 h => ?_) (fun J592 h hJ592 => ?_)
    ·
     refine oV (v_assign rfl) ?_
     refine rnf ?_
     refine wsr ?_
     refine oV (v_fa rfl GItem.f2 fd71_2) ?_
     refine oT (t_storeC (y' := ({ q560 with has := false } : GItem)) ty4 rfl rfl (fun _ _ h => h) .here rfl ?_)
     refine rnf ?_
     refine wsr ?_
     refine oV (v_fa rfl GItem.f1 fd71_1) ?_
     refine oT (t_loadC (R := isv (q560.number)) ty2 rfl .here (fun _ _ h => h) ?_)
     refine oV (v_assign rfl) ?_
     refine oV (v_assign rfl) ?_
     refine rnf ?_
     refine w_region ?_
     refine oV (v_move rfl) ?_
     refine oT (t_loadC (R := isv ({ q560 with has := false })) ty71 rfl .here (fun _ _ h => h) ?_)
     refine oT (t_buildSlice (l := ([{ q560 with has := false }] : (List GItem))) el55 (.cons rfl (fun _ _ h => h) .nil) rfl rfl ?_)
     refine asr_inv h fun q599 h => ?_
     refine oT (t_appC (l := q354.1) (m := ([{ q560 with has := false }] : (List GItem))) ap55_55 rfl (fun _ _ h => h) rfl appv_isv (.there .here) q599 fun t598 => ?_)
     refine oV (v_assign rfl) ?_
     refine rl_nil ?_
     refine fin_block ?_
     refine fin_nxt ?_
     refine w_region ?_
     refine oV (v_move rfl) ?_
     refine ck_inv h fun q600 h => ?_
     refine oV (v_add rfl rfl q600) ?_
     refine oV (v_assign rfl) ?_
     refine rl_nil ?_
     exact hL355 _ (t598) h _ (join_imp 37 rfl rfl (mod_cons (j := 5) rfl (fun _ _ h => h) (mod_cons (j := 9) rfl (fun _ _ h => h) (mod_cons (j := 10) rfl (fun _ _ h => h) (mod_cons (j := 11) rfl (fun _ _ h => h) (mod_cons (j := 12) rfl (fun _ _ h => h) mod_nil))))) (.cons .here (.cons (.there .here) (.cons (.there .here) .nil))))
    ·
     refine rl_condM (j := 101) h rfl (fun g593 h => ?_) (fun g593 h => ?_)
     ·
      refine op_pass rfl (dj := 101) rfl g593 ?_
      refine op_pass rfl (dj := 101) rfl g593 ?_
      refine op_passU rfl (dj := 103) rfl ?_
      refine op_passU rfl (dj := 103) rfl ?_
      refine op_passU rfl (dj := 103) rfl ?_
      refine op_passU rfl (dj := 103) rfl ?_
      refine op_pass rfl (dj := 101) rfl g593 ?_
      refine oV (v_pick_t rfl g593 rfl) ?_
      exact hJ592 _ () h _ (join_imp 8 rfl rfl (mod_cons (j := 109) rfl (fun _ _ h => h) mod_nil) (.cons .here (.cons .here (.cons .here (.cons .here .nil)))))
     ·
      refine op_take rfl rfl (dj := 101) rfl g593 (OpV.t (v_move rfl) ?_)
      refine op_take rfl rfl (dj := 101) rfl g593 (OpV.t (v_move rfl) ?_)
      refine rl_j (ι := Bool) (γ := Unit) (fun q594 g594 => [(108, isv (q594))]) (fun q594 g594 => []) .nil h 5 rfl (fun q594 g594 h => ?_) (fun J595 h hJ595 => ?_)
      ·
       refine oV (v_pick_f rfl g593 rfl) ?_
       exact hJ592 _ () h _ (join_imp 4 rfl rfl (mod_cons (j := 109) rfl (fun _ _ h => h) mod_nil) (.cons .here (.cons .here (.cons .here (.cons .here .nil)))))
      ·
       refine rl_condM (j := 103) h rfl (fun g596 h => ?_) (fun g596 h => ?_)
       ·
        refine op_take rfl rfl (dj := 103) rfl g596 (OpV.t (v_fa rfl GItem.f1 fd71_1) ?_)
        refine op_take rfl rfl (dj := 103) rfl g596 (t_loadC (R := isv (q560.number)) ty2 rfl .here (fun _ _ h => h) ?_)
        refine op_take rfl rfl (dj := 103) rfl g596 (OpV.t (v_move rfl) ?_)
        refine op_take rfl rfl (dj := 103) rfl g596 (OpV.t (v_leq rfl rfl) ?_)
        refine op_take rfl rfl (dj := 101) rfl g593 (OpV.t (v_pick_t rfl g596 rfl) ?_)
        exact hJ595 _ () h _ (join_imp 5 rfl rfl (mod_cons (j := 108) rfl (fun _ _ h => h) mod_nil) (.cons .here (.cons .here (.cons .here (.cons .here .nil)))))
       ·
        refine op_pass rfl (dj := 103) rfl g596 ?_
        refine op_pass rfl (dj := 103) rfl g596 ?_
        refine op_pass rfl (dj := 103) rfl g596 ?_
        refine op_pass rfl (dj := 103) rfl g596 ?_
        refine op_take rfl rfl (dj := 101) rfl g593 (OpV.t (v_pick_f rfl g596 rfl) ?_)
        exact hJ595 _ () h _ (join_imp 5 rfl rfl (mod_cons (j := 108) rfl (fun _ _ h => h) mod_nil) (.cons .here (.cons .here (.cons .here (.cons .here .nil)))))
   ·
    refine w_condM h rfl (fun _ h => ?_) (fun _ h => ?_)
    ·
     refine wsr ?_
     refine oV (v_fa rfl GItem.f1 fd71_1) ?_
     refine oT (t_storeC (y' := ({ y558 with number := (0 : Int) } : GItem)) ty2 rfl rfl (fun _ _ h => h) .here rfl ?_)
     refine rnf ?_
     refine wsr ?_
     refine oV (v_assign rfl) ?_
     refine rnf ?_
     refine w_block ?_
     refine w_lp (ι := Int × GItem) (γ := Unit) (fun q562 g562 => [(13, ptrv b559 (Fld.id GItem)), (14, isv (q562.1))]) (fun q562 g562 => [boxE b559 (q562.2 : GItem)]) h () (mod_cons (j := 13) rfl (fun _ _ h => h) (mod_cons (j := 14) rfl (fun _ _ h => h) mod_nil)) (.cons .here .nil) (fun L563 q562 g562 Q590 h hL563 eL563 rL563 => ?_)
     refine w_seq ?_
     refine wsr ?_
     refine oV (v_move rfl) ?_
     refine oV (v_move rfl) ?_
     refine oV (v_ln (l := q354.1) rfl appv_isv sl55) ?_
     refine oV (v_lss rfl rfl) ?_
     refine rnf ?_
     refine w_condM h rfl (fun _ h => ?_) (fun _ h => ?_)
     ·
      refine wkf ?_
      refine w_seq ?_
      refine w_J (ι := GItem) (γ := Unit) (fun q577 g577 => [(13, ptrv b559 (Fld.id GItem))]) (fun q577 g577 => [boxE b559 (q577 : GItem)]) (.cons .here .nil) h (fun q577 g577 h => ?_) (fun J578 h hJ578 => ?_)
      ·
       refine w_region ?_
       refine oV (v_move rfl) ?_
       refine ck_inv h fun q589 h => ?_
       refine oV (v_add rfl rfl q589) ?_
       refine oV (v_assign rfl) ?_
       refine rl_nil ?_
       exact hL563 _ () h _ (join_imp 10 rfl rfl (mod_cons (j := 13) rfl (fun _ _ h => h) (mod_cons (j := 14) rfl (fun _ _ h => h) mod_nil)) (.cons .here (.cons .here (.cons .here (.cons .here .nil)))))
      ·
       refine w_block ?_
       refine w_seq ?_
       refine wsr ?_
       refine oV (v_move rfl) ?_
       refine oV (v_move rfl) ?_
       refine cal_inv h fun y579 hy579 h => ?_
       refine oV (v_ix (l := q354.1) rfl appv_isv rfl sl55 hy579) ?_
       refine oV (v_fi rfl GItem.f1 fd71_1 rfl (z := y579.number)) ?_
       refine oV (v_loadI ty2 rfl) ?_
       refine oV (v_eql rfl rfl) ?_
       refine rnf ?_
       refine w_condM h rfl (fun _ h => ?_) (fun _ h => ?_)
       ·
        refine wsr ?_
        refine oV (v_move rfl) ?_
        refine cal_inv h fun y580 hy580 h => ?_
        refine oT (t_call (r10_maker_fail_w hy580) hT (.same rfl (.same rfl .nil)) (.cons (.there (.there .here)) (.cons (.there (.there .here)) .nil)) (fun R H' hR => ?_))
        obtain ⟨rfl, rfl⟩ := hR
        refine rnf ?_
        refine wsr ?_
        refine oV (v_assign rfl) ?_
        refine rnf ?_
        refine w_ret ?_
        refine ret_nxt ?_
        refine ret_block ?_
        refine ret_nxt ?_
        refine rL563 _ ?_
        refine ret_block ?_
        refine ret_nxt ?_
        refine ret_block ?_
        refine ret_nxt ?_
        refine rL355 _ ?_
        refine ret_block ?_
        refine ret_nxt ?_
        refine ret_post (.as rfl (nilv_isv (α := GItem)) .nil) (.cons .here (.cons .here .nil)) ?_
        obtain rfl := Option.some.inj h
        exact ⟨rfl, rfl⟩
       ·
        refine wkf ?_
        refine w_seq ?_
        refine w_pinN 13 .here rfl (fun o581 hn582 => ?_)
        refine w_regionD (.v 0 (.v 1 (.v 2 (.v 3 (.v 4 (.v 5 (.v 6 (.v 7 (.v 8 (.v 9 (.v 10 (.v 11 .nil)))))))))))) moOrd (by kernel_rfl) ?_
        refine rd_v rfl (v_move rfl) ?_
        refine rd_v rfl (v_eql rfl rfl) ?_
        refine rd_v rfl (v_move rfl) ?_
        refine rd_j (ι := Bool) (γ := Unit) (fun q583 g583 => [(92, isv (q583))]) (fun q583 g583 => []) .nil h 9 rfl (fun q583 g583 h => ?_) (fun J584 h hJ584 => ?_)
        ·
         refine rd_nil ?_
         refine fin_unpinN 13 hn582 rfl ?_
         refine fin_nxt ?_
         refine w_condM h rfl (fun _ h => ?_) (fun _ h => ?_)
         ·
          refine w_region ?_
          refine oV (v_move rfl) ?_
          refine oV (v_move rfl) ?_
          refine cal_inv h fun y587 hy587 h => ?_
          refine oV (v_ix (l := q354.1) rfl appv_isv rfl sl55 hy587) ?_
          refine oV (v_fi rfl GItem.f1 fd71_1 rfl (z := y587.number)) ?_
          refine oV (v_loadI ty2 rfl) ?_
          refine ck_inv h fun q588 h => ?_
          refine oV (v_add rfl rfl q588) ?_
          refine oV (v_fa rfl GItem.f1 fd71_1) ?_
          refine oT (t_storeC (y' := ({ q562.2 with number := (y587.number + (1 : Int)) } : GItem)) ty2 rfl rfl (fun _ _ h => h) .here rfl ?_)
          refine rl_nil ?_
          refine fin_block ?_
          exact hJ578 _ () h _ (join_imp 19 rfl rfl (mod_cons (j := 13) rfl (fun _ _ h => h) mod_nil) (.cons .here (.cons .here (.cons .here (.cons .here .nil)))))
         ·
          refine w_skip ?_
          refine fin_block ?_
          exact hJ578 _ () h _ (join_imp 12 rfl rfl (mod_cons (j := 13) rfl (fun _ _ h => h) mod_nil) (.cons .here (.cons .here (.cons .here (.cons .here .nil)))))
        ·
         refine rd_condM (j := 83) h rfl (fun g585 h => ?_) (fun g585 h => ?_)
         ·
          refine rd_passV rfl rfl (dj := 83) rfl g585 ?_
          refine rd_passV rfl rfl (dj := 83) rfl g585 ?_
          refine rd_passV rfl rfl (dj := 83) rfl g585 ?_
          refine rd_passV rfl rfl (dj := 83) rfl g585 ?_
          refine rd_passV rfl rfl (dj := 83) rfl g585 ?_
          refine rd_passV rfl rfl (dj := 83) rfl g585 ?_
          refine rd_passV rfl rfl (dj := 83) rfl g585 ?_
          refine rd_passV rfl rfl (dj := 83) rfl g585 ?_
          refine rd_v rfl (v_pick_t rfl g585 rfl) ?_
          exact hJ584 _ () h _ (join_imp 9 rfl rfl (mod_cons (j := 92) rfl (fun _ _ h => h) mod_nil) (.cons .here (.cons .here (.cons .here .nil))))
         ·
          refine rd_vt rfl rfl (dj := 83) rfl g585 (v_move rfl) ?_
          refine rd_vt rfl rfl (dj := 83) rfl g585 (v_move rfl) ?_
          refine cal_inv h fun y586 hy586 h => ?_
          refine rd_vt rfl rfl (dj := 83) rfl g585 (v_ix (l := q354.1) rfl appv_isv rfl sl55 hy586) ?_
          refine rd_vt rfl rfl (dj := 83) rfl g585 (v_fi rfl GItem.f1 fd71_1 rfl (z := y586.number)) ?_
          refine rd_vt rfl rfl (dj := 83) rfl g585 (v_loadI ty2 rfl) ?_
          refine rd_vt rfl rfl (dj := 83) rfl g585 (v_fp rfl GItem.f1 fd71_1) ?_
          refine rd_vt rfl rfl (dj := 83) rfl g585 (v_lpC (R := isv (q562.2.number)) ty2 rfl (List.Mem.head _) (fun _ _ h => h)) ?_
          refine rd_vt rfl rfl (dj := 83) rfl g585 (v_geq rfl rfl) ?_
          refine rd_v rfl (v_pick_f rfl g585 rfl) ?_
          exact hJ584 _ () h _ (join_imp 9 rfl rfl (mod_cons (j := 92) rfl (fun _ _ h => h) mod_nil) (.cons .here (.cons .here (.cons .here .nil))))
     ·
      refine w_exit ?_
      refine exi_nxt ?_
      refine eL563 _ _ ?_
      refine exi_block ?_
      exact hJ561 _ () h _ (join_imp 8 rfl rfl (mod_cons (j := 13) rfl (fun _ _ h => h) mod_nil) (.cons .here (.cons .here (.cons .here (.cons .here .nil)))))
    ·
     refine w_skip ?_
     exact hJ561 _ () h _ (join_imp 0 rfl rfl (mod_cons (j := 13) rfl (fun _ _ h => h) mod_nil) (.cons .here (.cons .here (.cons .here (.cons .here .nil)))))
  ·
   refine w_exit ?_
   refine exi_nxt ?_
   refine eL355 _ _ ?_
   refine exi_block ?_
   refine fin_nxt ?_
   refine w_seq ?_
   refine wsr ?_
   refine oV (v_assign rfl) ?_
   refine rnf ?_
   refine w_block ?_
   refine w_lp (ι := Bool × Int) (γ := Unit) (fun q601 g601 => [(11, isv (q601.1)), (15, isv (q601.2))]) (fun q601 g601 => []) h () (mod_cons (j := 11) rfl (fun _ _ h => h) (mod_cons (j := 15) rfl (fun _ _ h => h) mod_nil)) .nil (fun L602 q601 g601 Q663 h hL602 eL602 rL602 => ?_)
   refine w_seq ?_
   refine wsr ?_
   refine oV (v_move rfl) ?_
   refine oV (v_move rfl) ?_
   refine oV (v_ln (l := q354.1) rfl appv_isv sl55) ?_
   refine oV (v_lss rfl rfl) ?_
   refine rnf ?_
   refine w_condM h rfl (fun _ h => ?_) (fun _ h => ?_)
   ·
    refine wkf ?_
    refine w_seq ?_
    refine w_block ?_
    refine wsr ?_
    refine oV (v_assign rfl) ?_
    refine rnf ?_
    refine w_block ?_
    refine w_lp (ι := Bool × Int) (γ := Unit) (fun q633 g633 => [(11, isv (q633.1)), (16, isv (q633.2))]) (fun q633 g633 => []) h () (mod_cons (j := 11) rfl (fun _ _ h => h) (mod_cons (j := 16) rfl (fun _ _ h => h) mod_nil)) .nil (fun L634 q633 g633 Q659 h hL634 eL634 rL634 => ?_)
    refine w_seq ?_
    refine wsr ?_
    refine oV (v_move rfl) ?_
    refine oV (v_move rfl) ?_
    refine oV (v_lss rfl rfl) ?_
    refine rnf ?_
    refine w_condM h rfl (fun _ h => ?_) (fun _ h => ?_)
    ·
     refine wkf ?_
     refine w_seq ?_
     refine w_block ?_
     refine w_regionD (.v 0 (.v 1 (.v 2 (.v 3 (.v 4 (.v 5 (.v 6 (.v 7 (.v 8 (.v 9 (.v 10 (.v 11 (.v 12 (.v 13 (.v 14 (.v 15 (.v 16 (.v 17 (.v 18 (.v 19 (.v 20 (.v 21 (.v 22 (.v 23 (.v 24 (.v 25 (.v 26 (.v 27 .nil)))))))))))))))))))))))))))) moOrd (by kernel_rfl) ?_
     refine rd_v rfl (v_move rfl) ?_
     refine rd_v rfl (v_move rfl) ?_
     refine rd_j (ι := Bool) (γ := Unit) (fun q647 g647 => [(141, isv (q647))]) (fun q647 g647 => []) .nil h 12 rfl (fun q647 g647 h => ?_) (fun J648 h hJ648 => ?_)
     ·
      refine rd_v rfl (v_move rfl) ?_
      refine rd_j (ι := Bool) (γ := Unit) (fun q652 g652 => [(154, isv (q652))]) (fun q652 g652 => []) .nil h 12 rfl (fun q652 g652 h => ?_) (fun J653 h hJ653 => ?_)
      ·
       refine rd_v rfl (v_assign rfl) ?_
       refine rd_nil ?_
       refine fin_block ?_
       refine fin_nxt ?_
       refine w_region ?_
       refine oV (v_move rfl) ?_
       refine ck_inv h fun q657 h => ?_
       refine oV (v_add rfl rfl q657) ?_
       refine oV (v_assign rfl) ?_
       refine rl_nil ?_
       exact hL634 _ () h _ (join_imp 14 rfl rfl (mod_cons (j := 11) rfl (fun _ _ h => h) (mod_cons (j := 16) rfl (fun _ _ h => h) mod_nil)) (.cons .here (.cons .here (.cons .here .nil))))
      ·
       refine rd_condM (j := 142) h rfl (fun g654 h => ?_) (fun g654 h => ?_)
       ·
        refine rd_passV rfl rfl (dj := 142) rfl g654 ?_
        refine rd_passV rfl rfl (dj := 142) rfl g654 ?_
        refine rd_passV rfl rfl (dj := 142) rfl g654 ?_
        refine rd_passV rfl rfl (dj := 142) rfl g654 ?_
        refine rd_passV rfl rfl (dj := 142) rfl g654 ?_
        refine rd_passV rfl rfl (dj := 142) rfl g654 ?_
        refine rd_passV rfl rfl (dj := 142) rfl g654 ?_
        refine rd_passV rfl rfl (dj := 142) rfl g654 ?_
        refine rd_passV rfl rfl (dj := 142) rfl g654 ?_
        refine rd_passV rfl rfl (dj := 142) rfl g654 ?_
        refine rd_passV rfl rfl (dj := 142) rfl g654 ?_
        refine rd_v rfl (v_pick_t rfl g654 rfl) ?_
        exact hJ653 _ () h _ (join_imp 12 rfl rfl (mod_cons (j := 154) rfl (fun _ _ h => h) mod_nil) (.cons .here (.cons .here (.cons .here .nil))))
       ·
        refine rd_vt rfl rfl (dj := 142) rfl g654 (v_move rfl) ?_
        refine rd_vt rfl rfl (dj := 142) rfl g654 (v_move rfl) ?_
        refine cal_inv h fun y655 hy655 h => ?_
        refine rd_vt rfl rfl (dj := 142) rfl g654 (v_ix (l := q354.1) rfl appv_isv rfl sl55 hy655) ?_
        refine rd_vt rfl rfl (dj := 142) rfl g654 (v_fi rfl GItem.f1 fd71_1 rfl (z := y655.number)) ?_
        refine rd_vt rfl rfl (dj := 142) rfl g654 (v_loadI ty2 rfl) ?_
        refine rd_vt rfl rfl (dj := 142) rfl g654 (v_move rfl) ?_
        refine rd_vt rfl rfl (dj := 142) rfl g654 (v_move rfl) ?_
        refine cal_inv h fun y656 hy656 h => ?_
        refine rd_vt rfl rfl (dj := 142) rfl g654 (v_ix (l := q354.1) rfl appv_isv rfl sl55 hy656) ?_
        refine rd_vt rfl rfl (dj := 142) rfl g654 (v_fi rfl GItem.f1 fd71_1 rfl (z := y656.number)) ?_
        refine rd_vt rfl rfl (dj := 142) rfl g654 (v_loadI ty2 rfl) ?_
        refine rd_vt rfl rfl (dj := 142) rfl g654 (v_eql rfl rfl) ?_
        refine rd_v rfl (v_pick_f rfl g654 rfl) ?_
        exact hJ653 _ () h _ (join_imp 12 rfl rfl (mod_cons (j := 154) rfl (fun _ _ h => h) mod_nil) (.cons .here (.cons .here (.cons .here .nil))))
     ·
      refine rd_condM (j := 129) h rfl (fun g649 h => ?_) (fun g649 h => ?_)
      ·
       refine rd_passV rfl rfl (dj := 129) rfl g649 ?_
       refine rd_passV rfl rfl (dj := 129) rfl g649 ?_
       refine rd_passV rfl rfl (dj := 129) rfl g649 ?_
       refine rd_passV rfl rfl (dj := 129) rfl g649 ?_
       refine rd_passV rfl rfl (dj := 129) rfl g649 ?_
       refine rd_passV rfl rfl (dj := 129) rfl g649 ?_
       refine rd_passV rfl rfl (dj := 129) rfl g649 ?_
       refine rd_passV rfl rfl (dj := 129) rfl g649 ?_
       refine rd_passV rfl rfl (dj := 129) rfl g649 ?_
       refine rd_passV rfl rfl (dj := 129) rfl g649 ?_
       refine rd_passV rfl rfl (dj := 129) rfl g649 ?_
       refine rd_v rfl (v_pick_t rfl g649 rfl) ?_
       exact hJ648 _ () h _ (join_imp 12 rfl rfl (mod_cons (j := 141) rfl (fun _ _ h => h) mod_nil) (.cons .here (.cons .here (.cons .here .nil))))
      ·
       refine rd_vt rfl rfl (dj := 129) rfl g649 (v_move rfl) ?_
       refine rd_vt rfl rfl (dj := 129) rfl g649 (v_move rfl) ?_
       refine cal_inv h fun y650 hy650 h => ?_
       refine rd_vt rfl rfl (dj := 129) rfl g649 (v_ix (l := q354.1) rfl appv_isv rfl sl55 hy650) ?_
       refine rd_vt rfl rfl (dj := 129) rfl g649 (v_fi rfl GItem.f0 fd71_0 rfl (z := y650.name)) ?_
       refine rd_vt rfl rfl (dj := 129) rfl g649 (v_loadI ty9 rfl) ?_
       refine rd_vt rfl rfl (dj := 129) rfl g649 (v_move rfl) ?_
       refine rd_vt rfl rfl (dj := 129) rfl g649 (v_move rfl) ?_
       refine cal_inv h fun y651 hy651 h => ?_
       refine rd_vt rfl rfl (dj := 129) rfl g649 (v_ix (l := q354.1) rfl appv_isv rfl sl55 hy651) ?_
       refine rd_vt rfl rfl (dj := 129) rfl g649 (v_fi rfl GItem.f0 fd71_0 rfl (z := y651.name)) ?_
       refine rd_vt rfl rfl (dj := 129) rfl g649 (v_loadI ty9 rfl) ?_
       refine rd_vt rfl rfl (dj := 129) rfl g649 (v_eqA eq9 rfl rfl) ?_
       refine rd_v rfl (v_pick_f rfl g649 rfl) ?_
       exact hJ648 _ () h _ (join_imp 12 rfl rfl (mod_cons (j := 141) rfl (fun _ _ h => h) mod_nil) (.cons .here (.cons .here (.cons .here .nil))))
    ·
     refine w_exit ?_
     refine exi_nxt ?_
     refine eL634 _ _ ?_
     refine exi_block ?_
     refine fin_block ?_
     refine fin_nxt ?_
     refine w_region ?_
     refine oV (v_move rfl) ?_
     refine ck_inv h fun q658 h => ?_
     refine oV (v_add rfl rfl q658) ?_
     refine oV (v_assign rfl) ?_
     refine rl_nil ?_
     exact hL602 _ () h _ (join_imp 15 rfl rfl (mod_cons (j := 11) rfl (fun _ _ h => h) (mod_cons (j := 15) rfl (fun _ _ h => h) mod_nil)) (.cons .here (.cons .here (.cons .here .nil))))
   ·
    refine w_exit ?_
    refine exi_nxt ?_
    refine eL602 _ _ ?_
    refine exi_block ?_
    refine fin_nxt ?_
    refine w_seq ?_
    refine wsr ?_
    refine oV (v_move rfl) ?_
    refine rnf ?_
    refine w_J (ι := GMk) (γ := Unit) (fun q660 g660 => []) (fun q660 g660 => [boxE b_a_x ((q660.m, (Vh.mk v_a_x1 q660.l.length), q660.e) : (GMod × Vh × Int)), vecE v_a_x1 (q660.l : List GTyp)]) (.cons (.there .here) (.cons (.there .here) .nil)) h (fun q660 g660 h => ?_) (fun J661 h hJ661 => ?_)
    ·
     refine wsr ?_
     refine oV (v_move rfl) ?_
     refine oV (v_assign rfl) ?_
     refine rnf ?_
     refine w_ret ?_
     refine ret_post (.as rfl appv_isv .nil) (.cons .here (.cons .here .nil)) ?_
     obtain rfl := Option.some.inj h
     exact ⟨rfl, rfl⟩
    ·
     refine w_condM h rfl (fun _ h => ?_) (fun _ h => ?_)
     ·
      refine w_region ?_
      refine oV (v_move rfl) ?_
      refine cal_inv h fun y662 hy662 h => ?_
      refine oT (t_call (r10_maker_fail_w hy662) hT (.same rfl (.same rfl .nil)) (.cons (.there .here) (.cons (.there .here) .nil)) (fun R H' hR => ?_))
      obtain ⟨rfl, rfl⟩ := hR
      refine rl_nil ?_
      exact hJ661 _ () h _ (join_imp 2 rfl rfl mod_nil (.cons .here (.cons .here (.cons .here .nil))))
     ·
      refine w_skip ?_
      exact hJ661 _ () h _ (join_imp 0 rfl rfl mod_nil (.cons (.there .here) (.cons (.there .here) (.cons .here .nil))))


theorem r08_Within_w : ∀ {a_c : GCon} {a_v : Int} {r : Bool}, r08_Within a_c a_v = some r → Ctr Tryd.prog 134 [isv (a_c), isv (a_v)] [] (fun R H => R = oneOf [isv (r)] ∧ H = []) := by
 intro a_c a_v r h
 unfold r08_Within at h
 refine spec_intro Tryd.func134 rfl (by decide +kernel) (by rfl) fun w0 S0 hT => ?_
 refine wsr ?_
 refine oT (t_boxIC (y := a_c) rfl (fun _ _ h => h) ?_)
 refine oV (v_assign rfl) ?_
 refine rnf ?_
 refine wsr ?_
 refine oV (v_fi rfl GCon.f0 fd54_0 rfl (z := a_c.has)) ?_
 refine oV (v_loadI ty4 rfl) ?_
 refine oV (v_not rfl) ?_
 refine oV (v_move rfl) ?_
 refine rl_j (ι := Bool) (γ := Unit) (fun q1 g1 => [(29, isv (q1))]) (fun q1 g1 => []) .nil h 21 rfl (fun q1 g1 h => ?_) (fun J2 h hJ2 => ?_)
 ·
  refine oV (v_assign rfl) ?_
  refine rnf ?_
  refine w_ret ?_
  refine ret_post (.tmp rfl .nil) .nil ?_
  obtain rfl := Option.some.inj h
  exact ⟨rfl, rfl⟩
 ·
  refine rl_condM (j := 8) h rfl (fun g3 h => ?_) (fun g3 h => ?_)
  ·
   refine op_pass rfl (dj := 8) rfl g3 ?_
   refine op_pass rfl (dj := 8) rfl g3 ?_
   refine op_pass rfl (dj := 8) rfl g3 ?_
   refine op_pass rfl (dj := 8) rfl g3 ?_
   refine op_passU rfl (dj := 12) rfl ?_
   refine op_passU rfl (dj := 12) rfl ?_
   refine op_passU rfl (dj := 12) rfl ?_
   refine op_passU rfl (dj := 12) rfl ?_
   refine op_pass rfl (dj := 8) rfl g3 ?_
   refine op_pass rfl (dj := 8) rfl g3 ?_
   refine op_passU rfl (dj := 18) rfl ?_
   refine op_passU rfl (dj := 18) rfl ?_
   refine op_passU rfl (dj := 18) rfl ?_
   refine op_passU rfl (dj := 18) rfl ?_
   refine op_passU rfl (dj := 22) rfl ?_
   refine op_passU rfl (dj := 22) rfl ?_
   refine op_passU rfl (dj := 22) rfl ?_
   refine op_passU rfl (dj := 22) rfl ?_
   refine op_passU rfl (dj := 18) rfl ?_
   refine op_pass rfl (dj := 8) rfl g3 ?_
   refine oV (v_pick_t rfl g3 rfl) ?_
   exact hJ2 _ () h _ (join_imp 21 rfl rfl (mod_cons (j := 29) rfl (fun _ _ h => h) mod_nil) .nil)
  ·
   refine op_take rfl rfl (dj := 8) rfl g3 (OpV.t (v_fi rfl GCon.f1 fd54_1 rfl (z := a_c.hasLow)) ?_)
   refine op_take rfl rfl (dj := 8) rfl g3 (OpV.t (v_loadI ty4 rfl) ?_)
   refine op_take rfl rfl (dj := 8) rfl g3 (OpV.t (v_not rfl) ?_)
   refine op_take rfl rfl (dj := 8) rfl g3 (OpV.t (v_move rfl) ?_)
   refine rl_j (ι := Bool) (γ := Unit) (fun q4 g4 => [(17, isv (q4))]) (fun q4 g4 => []) .nil h 5 rfl (fun q4 g4 h => ?_) (fun J5 h hJ5 => ?_)
   ·
    refine op_take rfl rfl (dj := 8) rfl g3 (OpV.t (v_move rfl) ?_)
    refine rl_j (ι := Bool) (γ := Unit) (fun q7 g7 => [(28, isv (q7))]) (fun q7 g7 => []) .nil h 10 rfl (fun q7 g7 h => ?_) (fun J8 h hJ8 => ?_)
    ·
     refine oV (v_pick_f rfl g3 rfl) ?_
     exact hJ2 _ () h _ (join_imp 8 rfl rfl (mod_cons (j := 29) rfl (fun _ _ h => h) mod_nil) .nil)
    ·
     refine rl_condM (j := 18) h rfl (fun g9 h => ?_) (fun g9 h => ?_)
     ·
      refine op_take rfl rfl (dj := 18) rfl g9 (OpV.t (v_fi rfl GCon.f2 fd54_2 rfl (z := a_c.hasHigh)) ?_)
      refine op_take rfl rfl (dj := 18) rfl g9 (OpV.t (v_loadI ty4 rfl) ?_)
      refine op_take rfl rfl (dj := 18) rfl g9 (OpV.t (v_not rfl) ?_)
      refine op_take rfl rfl (dj := 18) rfl g9 (OpV.t (v_move rfl) ?_)
      refine rl_j (ι := Bool) (γ := Unit) (fun q10 g10 => [(27, isv (q10))]) (fun q10 g10 => []) .nil h 5 rfl (fun q10 g10 h => ?_) (fun J11 h hJ11 => ?_)
      ·
       refine op_take rfl rfl (dj := 8) rfl g3 (OpV.t (v_pick_t rfl g9 rfl) ?_)
       exact hJ8 _ () h _ (join_imp 6 rfl rfl (mod_cons (j := 28) rfl (fun _ _ h => h) mod_nil) .nil)
      ·
       refine rl_condM (j := 22) h rfl (fun g12 h => ?_) (fun g12 h => ?_)
       ·
        refine op_pass rfl (dj := 22) rfl g12 ?_
        refine op_pass rfl (dj := 22) rfl g12 ?_
        refine op_pass rfl (dj := 22) rfl g12 ?_
        refine op_pass rfl (dj := 22) rfl g12 ?_
        refine op_take rfl rfl (dj := 18) rfl g9 (OpV.t (v_pick_t rfl g12 rfl) ?_)
        exact hJ11 _ () h _ (join_imp 5 rfl rfl (mod_cons (j := 27) rfl (fun _ _ h => h) mod_nil) .nil)
       ·
        refine op_take rfl rfl (dj := 22) rfl g12 (OpV.t (v_move rfl) ?_)
        refine op_take rfl rfl (dj := 22) rfl g12 (OpV.t (v_fi rfl GCon.f5 fd54_5 rfl (z := a_c.high)) ?_)
        refine op_take rfl rfl (dj := 22) rfl g12 (OpV.t (v_loadI ty2 rfl) ?_)
        refine op_take rfl rfl (dj := 22) rfl g12 (OpV.t (v_leq rfl rfl) ?_)
        refine op_take rfl rfl (dj := 18) rfl g9 (OpV.t (v_pick_f rfl g12 rfl) ?_)
        exact hJ11 _ () h _ (join_imp 5 rfl rfl (mod_cons (j := 27) rfl (fun _ _ h => h) mod_nil) .nil)
     ·
      refine op_pass rfl (dj := 18) rfl g9 ?_
      refine op_pass rfl (dj := 18) rfl g9 ?_
      refine op_pass rfl (dj := 18) rfl g9 ?_
      refine op_pass rfl (dj := 18) rfl g9 ?_
      refine op_passU rfl (dj := 22) rfl ?_
      refine op_passU rfl (dj := 22) rfl ?_
      refine op_passU rfl (dj := 22) rfl ?_
      refine op_passU rfl (dj := 22) rfl ?_
      refine op_pass rfl (dj := 18) rfl g9 ?_
      refine op_take rfl rfl (dj := 8) rfl g3 (OpV.t (v_pick_f rfl g9 rfl) ?_)
      exact hJ8 _ () h _ (join_imp 10 rfl rfl (mod_cons (j := 28) rfl (fun _ _ h => h) mod_nil) .nil)
   ·
    refine rl_condM (j := 12) h rfl (fun g6 h => ?_) (fun g6 h => ?_)
    ·
     refine op_pass rfl (dj := 12) rfl g6 ?_
     refine op_pass rfl (dj := 12) rfl g6 ?_
     refine op_pass rfl (dj := 12) rfl g6 ?_
     refine op_pass rfl (dj := 12) rfl g6 ?_
     refine op_take rfl rfl (dj := 8) rfl g3 (OpV.t (v_pick_t rfl g6 rfl) ?_)
     exact hJ5 _ () h _ (join_imp 5 rfl rfl (mod_cons (j := 17) rfl (fun _ _ h => h) mod_nil) .nil)
    ·
     refine op_take rfl rfl (dj := 12) rfl g6 (OpV.t (v_move rfl) ?_)
     refine op_take rfl rfl (dj := 12) rfl g6 (OpV.t (v_fi rfl GCon.f4 fd54_4 rfl (z := a_c.low)) ?_)
     refine op_take rfl rfl (dj := 12) rfl g6 (OpV.t (v_loadI ty2 rfl) ?_)
     refine op_take rfl rfl (dj := 12) rfl g6 (OpV.t (v_geq rfl rfl) ?_)
     refine op_take rfl rfl (dj := 8) rfl g3 (OpV.t (v_pick_f rfl g6 rfl) ?_)
     exact hJ5 _ () h _ (join_imp 5 rfl rfl (mod_cons (j := 17) rfl (fun _ _ h => h) mod_nil) .nil)


theorem utf8_word_Lbyte_w : ∀ {a_s : (List UInt8)} {r : UInt64}, utf8_word_Lbyte a_s = some r → Ctr Tryd.prog 141 [isv (a_s)] [] (fun R H => R = oneOf [isv (r)] ∧ H = []) := by
 intro a_s r h
 unfold utf8_word_Lbyte at h
 refine spec_intro Tryd.func141 rfl (by decide +kernel) (by rfl) fun w0 S0 hT => ?_
 refine wsr ?_
 refine oV (v_assign rfl) ?_
 refine rnf ?_
 refine w_seq ?_
 refine w_cond_f rfl rfl ?_
 refine wkf ?_
 refine w_seq ?_
 refine w_regionD (.v 0 (.v 1 (.v 2 (.v 3 (.v 4 (.v 5 (.v 6 (.v 7 (.v 8 (.v 9 (.v 10 (.v 11 (.v 12 (.v 13 (.v 14 (.v 15 (.v 16 (.v 17 (.v 18 (.v 19 (.v 20 (.v 21 (.v 22 (.v 23 (.v 24 (.v 25 (.v 26 (.v 27 (.v 28 (.v 29 (.v 30 (.v 31 (.v 32 (.v 33 (.v 34 (.v 35 (.v 36 (.v 37 (.v 38 (.v 39 (.v 40 (.v 41 (.v 42 (.v 43 (.v 44 (.v 45 (.v 46 .nil))))))))))))))))))))))))))))))))))))))))))))))) moOrd (by kernel_rfl) ?_
 refine rd_v rfl (v_move rfl) ?_
 refine cal_inv h fun y1 hy1 h => ?_
 refine rd_v rfl (v_ix (l := a_s) rfl (fun _ _ h => h) rfl sl63 hy1) ?_
 refine rd_v rfl (v_loadI ty5 rfl) ?_
 refine rd_v rfl (v_u8u64 Tryd.underlying5 Tryd.underlying39 rfl) ?_
 refine rd_v rfl (v_move rfl) ?_
 refine cal_inv h fun y2 hy2 h => ?_
 refine rd_v rfl (v_ix (l := a_s) rfl (fun _ _ h => h) rfl sl63 hy2) ?_
 refine rd_v rfl (v_loadI ty5 rfl) ?_
 refine rd_v rfl (v_u8u64 Tryd.underlying5 Tryd.underlying39 rfl) ?_
 refine asr_inv h fun q3 h => ?_
 refine rd_v rfl (v_shl64 rfl rfl q3) ?_
 refine rd_v rfl (v_or64 rfl rfl) ?_
 refine rd_v rfl (v_move rfl) ?_
 refine cal_inv h fun y4 hy4 h => ?_
 refine rd_v rfl (v_ix (l := a_s) rfl (fun _ _ h => h) rfl sl63 hy4) ?_
 refine rd_v rfl (v_loadI ty5 rfl) ?_
 refine rd_v rfl (v_u8u64 Tryd.underlying5 Tryd.underlying39 rfl) ?_
 refine asr_inv h fun q5 h => ?_
 refine rd_v rfl (v_shl64 rfl rfl q5) ?_
 refine rd_v rfl (v_or64 rfl rfl) ?_
 refine rd_v rfl (v_move rfl) ?_
 refine cal_inv h fun y6 hy6 h => ?_
 refine rd_v rfl (v_ix (l := a_s) rfl (fun _ _ h => h) rfl sl63 hy6) ?_
 refine rd_v rfl (v_loadI ty5 rfl) ?_
 refine rd_v rfl (v_u8u64 Tryd.underlying5 Tryd.underlying39 rfl) ?_
 refine asr_inv h fun q7 h => ?_
 refine rd_v rfl (v_shl64 rfl rfl q7) ?_
 refine rd_v rfl (v_or64 rfl rfl) ?_
 refine rd_v rfl (v_move rfl) ?_
 refine cal_inv h fun y8 hy8 h => ?_
 refine rd_v rfl (v_ix (l := a_s) rfl (fun _ _ h => h) rfl sl63 hy8) ?_
 refine rd_v rfl (v_loadI ty5 rfl) ?_
 refine rd_v rfl (v_u8u64 Tryd.underlying5 Tryd.underlying39 rfl) ?_
 refine asr_inv h fun q9 h => ?_
 refine rd_v rfl (v_shl64 rfl rfl q9) ?_
 refine rd_v rfl (v_or64 rfl rfl) ?_
 refine rd_v rfl (v_move rfl) ?_
 refine cal_inv h fun y10 hy10 h => ?_
 refine rd_v rfl (v_ix (l := a_s) rfl (fun _ _ h => h) rfl sl63 hy10) ?_
 refine rd_v rfl (v_loadI ty5 rfl) ?_
 refine rd_v rfl (v_u8u64 Tryd.underlying5 Tryd.underlying39 rfl) ?_
 refine asr_inv h fun q11 h => ?_
 refine rd_v rfl (v_shl64 rfl rfl q11) ?_
 refine rd_v rfl (v_or64 rfl rfl) ?_
 refine rd_v rfl (v_move rfl) ?_
 refine cal_inv h fun y12 hy12 h => ?_
 refine rd_v rfl (v_ix (l := a_s) rfl (fun _ _ h => h) rfl sl63 hy12) ?_
 refine rd_v rfl (v_loadI ty5 rfl) ?_
 refine rd_v rfl (v_u8u64 Tryd.underlying5 Tryd.underlying39 rfl) ?_
 refine asr_inv h fun q13 h => ?_
 refine rd_v rfl (v_shl64 rfl rfl q13) ?_
 refine rd_v rfl (v_or64 rfl rfl) ?_
 refine rd_v rfl (v_move rfl) ?_
 refine cal_inv h fun y14 hy14 h => ?_
 refine rd_v rfl (v_ix (l := a_s) rfl (fun _ _ h => h) rfl sl63 hy14) ?_
 refine rd_v rfl (v_loadI ty5 rfl) ?_
 refine rd_v rfl (v_u8u64 Tryd.underlying5 Tryd.underlying39 rfl) ?_
 refine asr_inv h fun q15 h => ?_
 refine rd_v rfl (v_shl64 rfl rfl q15) ?_
 refine rd_v rfl (v_or64 rfl rfl) ?_
 refine rd_v rfl (v_assign rfl) ?_
 refine rd_nil ?_
 refine fin_nxt ?_
 refine w_ret ?_
 refine ret_post (.tmp rfl .nil) .nil ?_
 obtain rfl := Option.some.inj h
 exact ⟨rfl, rfl⟩


theorem utf8_Valid_w : ∀ {a_p : (List UInt8)} {r : Bool}, utf8_Valid a_p = some r → Ctr Tryd.prog 135 [isv (a_p)] [] (fun R H => R = oneOf [isv (r)] ∧ H = []) := by
 intro a_p r h
 unfold utf8_Valid at h
 refine spec_intro Tryd.func135 rfl (by decide +kernel) (by rfl) fun w0 S0 hT => ?_
 refine wsr ?_
 refine oV (v_assign rfl) ?_
 refine rnf ?_
 refine wsr ?_
 refine oV (v_move rfl) ?_
 refine oV (v_move rfl) ?_
 refine oV (v_ln (l := a_p) rfl (fun _ _ h => h) sl63) ?_
 refine oV (v_move rfl) ?_
 refine oV (v_ln (l := a_p) rfl (fun _ _ h => h) sl63) ?_
 refine asd_inv h fun q1 h => ?_
 refine oV (v_sl3 (l := a_p) rfl (fun _ _ h => h) sl63 rfl rfl q1.1 q1.2) ?_
 refine oV (v_assign rfl) ?_
 refine rnf ?_
 refine w_seq ?_
 refine w_block ?_
 refine w_lp (ι := (List UInt8)) (γ := Unit) (fun q2 g2 => [(0, isv (q2))]) (fun q2 g2 => []) h () (mod_cons (j := 0) rfl (fun _ _ h => h) mod_nil) .nil (fun L3 q2 g2 Q194 h hL3 eL3 rL3 => ?_)
 refine w_seq ?_
 refine wsr ?_
 refine oV (v_move rfl) ?_
 refine oV (v_ln (l := q2) rfl (fun _ _ h => h) sl63) ?_
 refine oV (v_gtr rfl rfl) ?_
 refine rnf ?_
 refine w_condM h rfl (fun _ h => ?_) (fun _ h => ?_)
 ·
  refine wkf ?_
  refine w_block ?_
  refine wsr ?_
  refine oV (v_move rfl) ?_
  refine cal_inv h fun y99 hy99 h => ?_
  refine oV (v_ix (l := q2) rfl (fun _ _ h => h) rfl sl63 hy99) ?_
  refine oV (v_loadI ty5 rfl) ?_
  refine oV (v_assign rfl) ?_
  refine rnf ?_
  refine w_seq ?_
  refine wsr ?_
  refine oV (v_move rfl) ?_
  refine oV (v_lss8 rfl rfl) ?_
  refine rnf ?_
  refine w_condM h rfl (fun _ h => ?_) (fun _ h => ?_)
  ·
   refine wsr ?_
   refine oV (v_move rfl) ?_
   refine asd_inv h fun q100 h => ?_
   refine oV (v_sl (l := q2) rfl (fun _ _ h => h) sl63 (.inr ⟨_, rfl, rfl⟩) (.inl ⟨rfl, rfl⟩) q100.1 q100.2.1 q100.2.2) ?_
   refine oV (v_assign rfl) ?_
   refine rnf ?_
   refine w_seq ?_
   refine wsr ?_
   refine oV (v_move rfl) ?_
   refine oV (v_ln (l := ((q2.take ((q2.length : Int)).toNat).drop ((1 : Int)).toNat)) rfl (fun _ _ h => h) sl63) ?_
   refine oV (v_gtr rfl rfl) ?_
   refine oV (v_move rfl) ?_
   refine rl_j (ι := Bool) (γ := Unit) (fun q101 g101 => [(31, isv (q101))]) (fun q101 g101 => []) .nil h 5 rfl (fun q101 g101 h => ?_) (fun J102 h hJ102 => ?_)
   ·
    refine rnf ?_
    refine w_J (ι := (List UInt8)) (γ := Unit) (fun q105 g105 => [(0, isv (q105))]) (fun q105 g105 => []) .nil h (fun q105 g105 h => ?_) (fun J106 h hJ106 => ?_)
    ·
     refine w_exit ?_
     refine exi_nxt ?_
     refine exi_block ?_
     exact hL3 _ () h _ (join_imp 19 rfl rfl (mod_cons (j := 0) rfl (fun _ _ h => h) mod_nil) .nil)
    ·
     refine w_condM h rfl (fun _ h => ?_) (fun _ h => ?_)
     ·
      refine wsr ?_
      refine oV (v_move rfl) ?_
      refine asd_inv h fun q107 h => ?_
      refine oV (v_sl (l := ((q2.take ((q2.length : Int)).toNat).drop ((1 : Int)).toNat)) rfl (fun _ _ h => h) sl63 (.inr ⟨_, rfl, rfl⟩) (.inl ⟨rfl, rfl⟩) q107.1 q107.2.1 q107.2.2) ?_
      refine oV (v_assign rfl) ?_
      refine rnf ?_
      refine w_seq ?_
      refine w_regionD (.v 0 (.v 1 (.v 2 (.v 3 (.v 4 (.v 6 (.v 7 (.t 5 (.t 8 (.v 9 (.v 10 (.v 11 (.v 12 .nil))))))))))))) moOrd (by kernel_rfl) ?_
      refine rd_v rfl (v_move rfl) ?_
      refine rd_v rfl (v_ln (l := ((((q2.take ((q2.length : Int)).toNat).drop ((1 : Int)).toNat).take ((((q2.take ((q2.length : Int)).toNat).drop ((1 : Int)).toNat).length : Int)).toNat).drop ((8 : Int)).toNat)) rfl (fun _ _ h => h) sl63) ?_
      refine rd_v rfl (v_gtr rfl rfl) ?_
      refine rd_v rfl (v_move rfl) ?_
      refine rd_j (ι := Bool) (γ := Unit) (fun q108 g108 => [(46, isv (q108))]) (fun q108 g108 => []) .nil h 9 rfl (fun q108 g108 h => ?_) (fun J109 h hJ109 => ?_)
      ·
       refine rd_nil ?_
       refine fin_nxt ?_
       refine w_condM h rfl (fun _ h => ?_) (fun _ h => ?_)
       ·
        refine wsr ?_
        refine oV (v_move rfl) ?_
        refine asd_inv h fun q114 h => ?_
        refine oV (v_sl (l := ((((q2.take ((q2.length : Int)).toNat).drop ((1 : Int)).toNat).take ((((q2.take ((q2.length : Int)).toNat).drop ((1 : Int)).toNat).length : Int)).toNat).drop ((8 : Int)).toNat)) rfl (fun _ _ h => h) sl63 (.inr ⟨_, rfl, rfl⟩) (.inl ⟨rfl, rfl⟩) q114.1 q114.2.1 q114.2.2) ?_
        refine oV (v_assign rfl) ?_
        refine rnf ?_
        refine w_block ?_
        refine w_lp (ι := (List UInt8)) (γ := Unit) (fun q115 g115 => [(0, isv (q115))]) (fun q115 g115 => []) h () (mod_cons (j := 0) rfl (fun _ _ h => h) mod_nil) .nil (fun L116 q115 g115 Q139 h hL116 eL116 rL116 => ?_)
        refine w_seq ?_
        refine w_seq ?_
        refine w_regionD (.v 0 (.v 1 (.v 2 (.v 3 (.v 4 (.v 6 (.v 7 (.v 10 (.v 11 (.v 13 (.v 14 (.t 5 (.t 8 (.v 9 (.t 12 (.t 15 (.v 16 (.v 17 (.v 18 (.v 19 (.v 20 .nil))))))))))))))))))))) moOrd (by kernel_rfl) ?_
        refine rd_v rfl (v_move rfl) ?_
        refine rd_v rfl (v_ln (l := q115) rfl (fun _ _ h => h) sl63) ?_
        refine rd_v rfl (v_gtr rfl rfl) ?_
        refine rd_v rfl (v_move rfl) ?_
        refine rd_j (ι := Bool) (γ := Unit) (fun q128 g128 => [(69, isv (q128))]) (fun q128 g128 => []) .nil h 17 rfl (fun q128 g128 h => ?_) (fun J129 h hJ129 => ?_)
        ·
         refine rd_nil ?_
         refine fin_nxt ?_
         refine w_condM h rfl (fun _ h => ?_) (fun _ h => ?_)
         ·
          refine wkf ?_
          refine w_block ?_
          refine w_region ?_
          refine oV (v_move rfl) ?_
          refine asd_inv h fun q138 h => ?_
          refine oV (v_sl (l := q115) rfl (fun _ _ h => h) sl63 (.inr ⟨_, rfl, rfl⟩) (.inl ⟨rfl, rfl⟩) q138.1 q138.2.1 q138.2.2) ?_
          refine oV (v_assign rfl) ?_
          refine rl_nil ?_
          refine fin_block ?_
          exact hL116 _ () h _ (join_imp 9 rfl rfl (mod_cons (j := 0) rfl (fun _ _ h => h) mod_nil) .nil)
         ·
          refine w_exit ?_
          refine exi_nxt ?_
          refine eL116 _ _ ?_
          refine exi_block ?_
          exact hJ106 _ () h _ (join_imp 17 rfl rfl (mod_cons (j := 0) rfl (fun _ _ h => h) mod_nil) .nil)
        ·
         refine rd_condM (j := 52) h rfl (fun g130 h => ?_) (fun g130 h => ?_)
         ·
          refine rd_vt rfl rfl (dj := 52) rfl g130 (v_move rfl) ?_
          refine rd_vt rfl rfl (dj := 52) rfl g130 (v_move rfl) ?_
          refine asd_inv h fun q131 h => ?_
          refine rd_vt rfl rfl (dj := 52) rfl g130 (v_sl (l := q115) rfl (fun _ _ h => h) sl63 (.inr ⟨_, rfl, rfl⟩) (.inl ⟨rfl, rfl⟩) q131.1 q131.2.1 q131.2.2) ?_
          refine rd_vt rfl rfl (dj := 52) rfl g130 (v_move rfl) ?_
          refine asd_inv h fun q132 h => ?_
          refine rd_vt rfl rfl (dj := 52) rfl g130 (v_sl (l := q115) rfl (fun _ _ h => h) sl63 (.inr ⟨_, rfl, rfl⟩) (.inl ⟨rfl, rfl⟩) q132.1 q132.2.1 q132.2.2) ?_
          refine rd_vt rfl rfl (dj := 52) rfl g130 (v_move rfl) ?_
          refine asd_inv h fun q133 h => ?_
          refine rd_vt rfl rfl (dj := 52) rfl g130 (v_sl (l := q115) rfl (fun _ _ h => h) sl63 (.inr ⟨_, rfl, rfl⟩) (.inl ⟨rfl, rfl⟩) q133.1 q133.2.1 q133.2.2) ?_
          refine cal_inv h fun y134 hy134 h => ?_
          refine rd_tt rfl rfl rfl (dj := 52) rfl g130 (t_call (utf8_word_Lbyte_w hy134) hT (.same rfl .nil) .nil (fun R H' hR => ?_))
          obtain ⟨rfl, rfl⟩ := hR
          refine cal_inv h fun y135 hy135 h => ?_
          refine rd_tt rfl rfl rfl (dj := 52) rfl g130 (t_call (utf8_word_Lbyte_w hy135) hT (.same rfl .nil) .nil (fun R H' hR => ?_))
          obtain ⟨rfl, rfl⟩ := hR
          refine rd_vt rfl rfl (dj := 52) rfl g130 (v_or64 rfl rfl) ?_
          refine cal_inv h fun y136 hy136 h => ?_
          refine rd_tt rfl rfl rfl (dj := 52) rfl g130 (t_call (utf8_word_Lbyte_w hy136) hT (.same rfl .nil) .nil (fun R H' hR => ?_))
          obtain ⟨rfl, rfl⟩ := hR
          refine cal_inv h fun y137 hy137 h => ?_
          refine rd_tt rfl rfl rfl (dj := 52) rfl g130 (t_call (utf8_word_Lbyte_w hy137) hT (.same rfl .nil) .nil (fun R H' hR => ?_))
          obtain ⟨rfl, rfl⟩ := hR
          refine rd_vt rfl rfl (dj := 52) rfl g130 (v_or64 rfl rfl) ?_
          refine rd_vt rfl rfl (dj := 52) rfl g130 (v_or64 rfl rfl) ?_
          refine rd_vt rfl rfl (dj := 52) rfl g130 (v_and64 rfl rfl) ?_
          refine rd_vt rfl rfl (dj := 52) rfl g130 (v_eql64 rfl rfl) ?_
          refine rd_v rfl (v_pick_t rfl g130 rfl) ?_
          exact hJ129 _ () h _ (join_imp 17 rfl rfl (mod_cons (j := 69) rfl (fun _ _ h => h) mod_nil) .nil)
         ·
          refine rd_passV rfl rfl (dj := 52) rfl g130 ?_
          refine rd_passV rfl rfl (dj := 52) rfl g130 ?_
          refine rd_passV rfl rfl (dj := 52) rfl g130 ?_
          refine rd_passV rfl rfl (dj := 52) rfl g130 ?_
          refine rd_passV rfl rfl (dj := 52) rfl g130 ?_
          refine rd_passV rfl rfl (dj := 52) rfl g130 ?_
          refine rd_passV rfl rfl (dj := 52) rfl g130 ?_
          refine rd_passT rfl rfl (dj := 52) rfl g130 ?_
          refine rd_passT rfl rfl (dj := 52) rfl g130 ?_
          refine rd_passV rfl rfl (dj := 52) rfl g130 ?_
          refine rd_passT rfl rfl (dj := 52) rfl g130 ?_
          refine rd_passT rfl rfl (dj := 52) rfl g130 ?_
          refine rd_passV rfl rfl (dj := 52) rfl g130 ?_
          refine rd_passV rfl rfl (dj := 52) rfl g130 ?_
          refine rd_passV rfl rfl (dj := 52) rfl g130 ?_
          refine rd_passV rfl rfl (dj := 52) rfl g130 ?_
          refine rd_v rfl (v_pick_f rfl g130 rfl) ?_
          exact hJ129 _ () h _ (join_imp 17 rfl rfl (mod_cons (j := 69) rfl (fun _ _ h => h) mod_nil) .nil)
       ·
        refine w_skip ?_
        exact hJ106 _ () h _ (join_imp 8 rfl rfl (mod_cons (j := 0) rfl (fun _ _ h => h) mod_nil) .nil)
      ·
       refine rd_condM (j := 37) h rfl (fun g110 h => ?_) (fun g110 h => ?_)
       ·
        refine rd_vt rfl rfl (dj := 37) rfl g110 (v_move rfl) ?_
        refine rd_vt rfl rfl (dj := 37) rfl g110 (v_move rfl) ?_
        refine asd_inv h fun q111 h => ?_
        refine rd_vt rfl rfl (dj := 37) rfl g110 (v_sl (l := ((((q2.take ((q2.length : Int)).toNat).drop ((1 : Int)).toNat).take ((((q2.take ((q2.length : Int)).toNat).drop ((1 : Int)).toNat).length : Int)).toNat).drop ((8 : Int)).toNat)) rfl (fun _ _ h => h) sl63 (.inr ⟨_, rfl, rfl⟩) (.inl ⟨rfl, rfl⟩) q111.1 q111.2.1 q111.2.2) ?_
        refine cal_inv h fun y112 hy112 h => ?_
        refine rd_tt rfl rfl rfl (dj := 37) rfl g110 (t_call (utf8_word_Lbyte_w hy112) hT (.same rfl .nil) .nil (fun R H' hR => ?_))
        obtain ⟨rfl, rfl⟩ := hR
        refine cal_inv h fun y113 hy113 h => ?_
        refine rd_tt rfl rfl rfl (dj := 37) rfl g110 (t_call (utf8_word_Lbyte_w hy113) hT (.same rfl .nil) .nil (fun R H' hR => ?_))
        obtain ⟨rfl, rfl⟩ := hR
        refine rd_vt rfl rfl (dj := 37) rfl g110 (v_or64 rfl rfl) ?_
        refine rd_vt rfl rfl (dj := 37) rfl g110 (v_and64 rfl rfl) ?_
        refine rd_vt rfl rfl (dj := 37) rfl g110 (v_eql64 rfl rfl) ?_
        refine rd_v rfl (v_pick_t rfl g110 rfl) ?_
        exact hJ109 _ () h _ (join_imp 9 rfl rfl (mod_cons (j := 46) rfl (fun _ _ h => h) mod_nil) .nil)
       ·
        refine rd_passV rfl rfl (dj := 37) rfl g110 ?_
        refine rd_passV rfl rfl (dj := 37) rfl g110 ?_
        refine rd_passV rfl rfl (dj := 37) rfl g110 ?_
        refine rd_passT rfl rfl (dj := 37) rfl g110 ?_
        refine rd_passT rfl rfl (dj := 37) rfl g110 ?_
        refine rd_passV rfl rfl (dj := 37) rfl g110 ?_
        refine rd_passV rfl rfl (dj := 37) rfl g110 ?_
        refine rd_passV rfl rfl (dj := 37) rfl g110 ?_
        refine rd_v rfl (v_pick_f rfl g110 rfl) ?_
        exact hJ109 _ () h _ (join_imp 9 rfl rfl (mod_cons (j := 46) rfl (fun _ _ h => h) mod_nil) .nil)
     ·
      refine w_skip ?_
      exact hJ106 _ () h _ (join_imp 0 rfl rfl (mod_cons (j := 0) rfl (fun _ _ h => h) mod_nil) .nil)
   ·
    refine rl_condM (j := 26) h rfl (fun g103 h => ?_) (fun g103 h => ?_)
    ·
     refine op_take rfl rfl (dj := 26) rfl g103 (OpV.t (v_move rfl) ?_)
     refine cal_inv h fun y104 hy104 h => ?_
     refine op_take rfl rfl (dj := 26) rfl g103 (t_call (utf8_word_Lbyte_w hy104) hT (.same rfl .nil) .nil (fun R H' hR => ?_))
     obtain ⟨rfl, rfl⟩ := hR
     refine op_take rfl rfl (dj := 26) rfl g103 (OpV.t (v_and64 rfl rfl) ?_)
     refine op_take rfl rfl (dj := 26) rfl g103 (OpV.t (v_eql64 rfl rfl) ?_)
     refine oV (v_pick_t rfl g103 rfl) ?_
     exact hJ102 _ () h _ (join_imp 5 rfl rfl (mod_cons (j := 31) rfl (fun _ _ h => h) mod_nil) .nil)
    ·
     refine op_pass rfl (dj := 26) rfl g103 ?_
     refine op_pass rfl (dj := 26) rfl g103 ?_
     refine op_pass rfl (dj := 26) rfl g103 ?_
     refine op_pass rfl (dj := 26) rfl g103 ?_
     refine oV (v_pick_f rfl g103 rfl) ?_
     exact hJ102 _ () h _ (join_imp 5 rfl rfl (mod_cons (j := 31) rfl (fun _ _ h => h) mod_nil) .nil)
  ·
   refine wkf ?_
   refine wsr ?_
   refine oV (v_move rfl) ?_
   refine oV (v_t1 gl_first ar181 rfl) ?_
   refine oV (v_t1l hT ty5 rfl _ gl_acceptRanges) ?_
   refine oV (v_assign rfl) ?_
   refine rnf ?_
   refine wsr ?_
   refine oV (v_move rfl) ?_
   refine oV (v_and8 rfl rfl) ?_
   refine oV (v_u8i Tryd.underlying5 Tryd.underlying3 rfl) ?_
   refine oV (v_assign rfl) ?_
   refine rnf ?_
   refine wsr ?_
   refine oV (v_move rfl) ?_
   refine asr_inv h fun q140 h => ?_
   refine oV (v_shr8 rfl rfl q140) ?_
   refine asr_inv h fun q141 h => ?_
   refine oV (v_t2 gl_acceptRanges ar184 rfl q141) ?_
   refine oV (v_t2l hT ty183 rfl q141 _ gl_first) ?_
   refine oT (t_alloc _ ze183 fun b142 => ?_)
   refine oT (t_storeC (y' := ((tab2 (shr8 (tab1 y99) (4 : UInt64).toNat)) : GAcc)) ty183 rfl rfl (fun _ _ h => h) .here rfl ?_)
   refine rl_upd (upd_imm 6 .here rfl) ?_
   refine rnf ?_
   refine wsr ?_
   refine oV (v_move rfl) ?_
   refine rnf ?_
   refine w_block ?_
   refine wsr ?_
   refine oV (v_eql rfl rfl) ?_
   refine oV (v_assign rfl) ?_
   refine rnf ?_
   refine w_condM h rfl (fun _ h => ?_) (fun _ h => ?_)
   ·
    refine w_seq ?_
    refine w_seq ?_
    refine w_regionD (.v 0 (.v 1 (.v 2 (.v 3 (.v 4 (.v 5 (.v 6 (.v 7 (.v 8 (.v 9 (.v 10 (.v 11 (.v 12 (.v 13 (.v 14 (.v 15 (.v 16 (.v 17 (.v 18 .nil))))))))))))))))))) moOrd (by kernel_rfl) ?_
    refine rd_v rfl (v_move rfl) ?_
    refine rd_v rfl (v_ln (l := q2) rfl (fun _ _ h => h) sl63) ?_
    refine rd_v rfl (v_lss rfl rfl) ?_
    refine rd_v rfl (v_move rfl) ?_
    refine rd_j (ι := Bool) (γ := Unit) (fun q143 g143 => [(95, isv (q143))]) (fun q143 g143 => []) .nil h 7 rfl (fun q143 g143 h => ?_) (fun J144 h hJ144 => ?_)
    ·
     refine rd_v rfl (v_move rfl) ?_
     refine rd_j (ι := Bool) (γ := Unit) (fun q147 g147 => [(103, isv (q147))]) (fun q147 g147 => []) .nil h 7 rfl (fun q147 g147 h => ?_) (fun J148 h hJ148 => ?_)
     ·
      refine rd_nil ?_
      refine fin_nxt ?_
      refine w_condM h rfl (fun _ h => ?_) (fun _ h => ?_)
      ·
       refine wsr ?_
       refine oV (v_assign rfl) ?_
       refine rnf ?_
       refine w_ret ?_
       refine ret_nxt ?_
       refine ret_block ?_
       refine ret_block ?_
       refine rL3 _ ?_
       refine ret_block ?_
       refine ret_nxt ?_
       refine ret_post (.tmp rfl .nil) .nil ?_
       obtain rfl := Option.some.inj h
       exact ⟨rfl, rfl⟩
      ·
       refine wkf ?_
       refine w_region ?_
       refine oV (v_move rfl) ?_
       refine asd_inv h fun q151 h => ?_
       refine oV (v_sl (l := q2) rfl (fun _ _ h => h) sl63 (.inr ⟨_, rfl, rfl⟩) (.inl ⟨rfl, rfl⟩) q151.1 q151.2.1 q151.2.2) ?_
       refine oV (v_assign rfl) ?_
       refine rl_nil ?_
       refine fin_block ?_
       refine fin_block ?_
       exact hL3 _ () h _ (join_imp 37 rfl rfl (mod_cons (j := 0) rfl (fun _ _ h => h) mod_nil) .nil)
     ·
      refine rd_condM (j := 96) h rfl (fun g149 h => ?_) (fun g149 h => ?_)
      ·
       refine rd_passV rfl rfl (dj := 96) rfl g149 ?_
       refine rd_passV rfl rfl (dj := 96) rfl g149 ?_
       refine rd_passV rfl rfl (dj := 96) rfl g149 ?_
       refine rd_passV rfl rfl (dj := 96) rfl g149 ?_
       refine rd_passV rfl rfl (dj := 96) rfl g149 ?_
       refine rd_passV rfl rfl (dj := 96) rfl g149 ?_
       refine rd_v rfl (v_pick_t rfl g149 rfl) ?_
       exact hJ148 _ () h _ (join_imp 7 rfl rfl (mod_cons (j := 103) rfl (fun _ _ h => h) mod_nil) .nil)
      ·
       refine rd_vt rfl rfl (dj := 96) rfl g149 (v_fi rfl GAcc.f1 fd183_1 rfl (z := (tab2 (shr8 (tab1 y99) (4 : UInt64).toNat)).hi)) ?_
       refine rd_vt rfl rfl (dj := 96) rfl g149 (v_loadI ty5 rfl) ?_
       refine rd_vt rfl rfl (dj := 96) rfl g149 (v_move rfl) ?_
       refine cal_inv h fun y150 hy150 h => ?_
       refine rd_vt rfl rfl (dj := 96) rfl g149 (v_ix (l := q2) rfl (fun _ _ h => h) rfl sl63 hy150) ?_
       refine rd_vt rfl rfl (dj := 96) rfl g149 (v_loadI ty5 rfl) ?_
       refine rd_vt rfl rfl (dj := 96) rfl g149 (v_lss8 rfl rfl) ?_
       refine rd_v rfl (v_pick_f rfl g149 rfl) ?_
       exact hJ148 _ () h _ (join_imp 7 rfl rfl (mod_cons (j := 103) rfl (fun _ _ h => h) mod_nil) .nil)
    ·
     refine rd_condM (j := 88) h rfl (fun g145 h => ?_) (fun g145 h => ?_)
     ·
      refine rd_passV rfl rfl (dj := 88) rfl g145 ?_
      refine rd_passV rfl rfl (dj := 88) rfl g145 ?_
      refine rd_passV rfl rfl (dj := 88) rfl g145 ?_
      refine rd_passV rfl rfl (dj := 88) rfl g145 ?_
      refine rd_passV rfl rfl (dj := 88) rfl g145 ?_
      refine rd_passV rfl rfl (dj := 88) rfl g145 ?_
      refine rd_v rfl (v_pick_t rfl g145 rfl) ?_
      exact hJ144 _ () h _ (join_imp 7 rfl rfl (mod_cons (j := 95) rfl (fun _ _ h => h) mod_nil) .nil)
     ·
      refine rd_vt rfl rfl (dj := 88) rfl g145 (v_move rfl) ?_
      refine cal_inv h fun y146 hy146 h => ?_
      refine rd_vt rfl rfl (dj := 88) rfl g145 (v_ix (l := q2) rfl (fun _ _ h => h) rfl sl63 hy146) ?_
      refine rd_vt rfl rfl (dj := 88) rfl g145 (v_loadI ty5 rfl) ?_
      refine rd_vt rfl rfl (dj := 88) rfl g145 (v_fi rfl GAcc.f0 fd183_0 rfl (z := (tab2 (shr8 (tab1 y99) (4 : UInt64).toNat)).lo)) ?_
      refine rd_vt rfl rfl (dj := 88) rfl g145 (v_loadI ty5 rfl) ?_
      refine rd_vt rfl rfl (dj := 88) rfl g145 (v_lss8 rfl rfl) ?_
      refine rd_v rfl (v_pick_f rfl g145 rfl) ?_
      exact hJ144 _ () h _ (join_imp 7 rfl rfl (mod_cons (j := 95) rfl (fun _ _ h => h) mod_nil) .nil)
   ·
    refine wsr ?_
    refine oV (v_eql rfl rfl) ?_
    refine oV (v_assign rfl) ?_
    refine rnf ?_
    refine w_condM h rfl (fun _ h => ?_) (fun _ h => ?_)
    ·
     refine w_seq ?_
     refine w_seq ?_
     refine w_regionD (.v 0 (.v 1 (.v 2 (.v 3 (.v 4 (.v 5 (.v 6 (.v 7 (.v 8 (.v 9 (.v 10 (.v 11 (.v 12 (.v 13 (.v 14 (.v 15 (.v 16 (.v 17 (.v 18 (.v 19 (.v 20 (.v 21 (.v 22 (.v 23 (.v 24 (.v 25 (.v 26 (.v 27 (.v 28 (.v 29 (.v 30 .nil))))))))))))))))))))))))))))))) moOrd (by kernel_rfl) ?_
     refine rd_v rfl (v_move rfl) ?_
     refine rd_v rfl (v_ln (l := q2) rfl (fun _ _ h => h) sl63) ?_
     refine rd_v rfl (v_lss rfl rfl) ?_
     refine rd_v rfl (v_move rfl) ?_
     refine rd_j (ι := Bool) (γ := Unit) (fun q152 g152 => [(118, isv (q152))]) (fun q152 g152 => []) .nil h 7 rfl (fun q152 g152 h => ?_) (fun J153 h hJ153 => ?_)
     ·
      refine rd_v rfl (v_move rfl) ?_
      refine rd_j (ι := Bool) (γ := Unit) (fun q156 g156 => [(126, isv (q156))]) (fun q156 g156 => []) .nil h 7 rfl (fun q156 g156 h => ?_) (fun J157 h hJ157 => ?_)
      ·
       refine rd_v rfl (v_move rfl) ?_
       refine rd_j (ι := Bool) (γ := Unit) (fun q160 g160 => [(132, isv (q160))]) (fun q160 g160 => []) .nil h 5 rfl (fun q160 g160 h => ?_) (fun J161 h hJ161 => ?_)
       ·
        refine rd_v rfl (v_move rfl) ?_
        refine rd_j (ι := Bool) (γ := Unit) (fun q164 g164 => [(138, isv (q164))]) (fun q164 g164 => []) .nil h 5 rfl (fun q164 g164 h => ?_) (fun J165 h hJ165 => ?_)
        ·
         refine rd_nil ?_
         refine fin_nxt ?_
         refine w_condM h rfl (fun _ h => ?_) (fun _ h => ?_)
         ·
          refine wsr ?_
          refine oV (v_assign rfl) ?_
          refine rnf ?_
          refine w_ret ?_
          refine ret_nxt ?_
          refine ret_block ?_
          refine ret_block ?_
          refine rL3 _ ?_
          refine ret_block ?_
          refine ret_nxt ?_
          refine ret_post (.tmp rfl .nil) .nil ?_
          obtain rfl := Option.some.inj h
          exact ⟨rfl, rfl⟩
         ·
          refine wkf ?_
          refine w_region ?_
          refine oV (v_move rfl) ?_
          refine asd_inv h fun q168 h => ?_
          refine oV (v_sl (l := q2) rfl (fun _ _ h => h) sl63 (.inr ⟨_, rfl, rfl⟩) (.inl ⟨rfl, rfl⟩) q168.1 q168.2.1 q168.2.2) ?_
          refine oV (v_assign rfl) ?_
          refine rl_nil ?_
          refine fin_block ?_
          refine fin_block ?_
          exact hL3 _ () h _ (join_imp 43 rfl rfl (mod_cons (j := 0) rfl (fun _ _ h => h) mod_nil) .nil)
        ·
         refine rd_condM (j := 133) h rfl (fun g166 h => ?_) (fun g166 h => ?_)
         ·
          refine rd_passV rfl rfl (dj := 133) rfl g166 ?_
          refine rd_passV rfl rfl (dj := 133) rfl g166 ?_
          refine rd_passV rfl rfl (dj := 133) rfl g166 ?_
          refine rd_passV rfl rfl (dj := 133) rfl g166 ?_
          refine rd_v rfl (v_pick_t rfl g166 rfl) ?_
          exact hJ165 _ () h _ (join_imp 5 rfl rfl (mod_cons (j := 138) rfl (fun _ _ h => h) mod_nil) .nil)
         ·
          refine rd_vt rfl rfl (dj := 133) rfl g166 (v_move rfl) ?_
          refine cal_inv h fun y167 hy167 h => ?_
          refine rd_vt rfl rfl (dj := 133) rfl g166 (v_ix (l := q2) rfl (fun _ _ h => h) rfl sl63 hy167) ?_
          refine rd_vt rfl rfl (dj := 133) rfl g166 (v_loadI ty5 rfl) ?_
          refine rd_vt rfl rfl (dj := 133) rfl g166 (v_lss8 rfl rfl) ?_
          refine rd_v rfl (v_pick_f rfl g166 rfl) ?_
          exact hJ165 _ () h _ (join_imp 5 rfl rfl (mod_cons (j := 138) rfl (fun _ _ h => h) mod_nil) .nil)
       ·
        refine rd_condM (j := 127) h rfl (fun g162 h => ?_) (fun g162 h => ?_)
        ·
         refine rd_passV rfl rfl (dj := 127) rfl g162 ?_
         refine rd_passV rfl rfl (dj := 127) rfl g162 ?_
         refine rd_passV rfl rfl (dj := 127) rfl g162 ?_
         refine rd_passV rfl rfl (dj := 127) rfl g162 ?_
         refine rd_v rfl (v_pick_t rfl g162 rfl) ?_
         exact hJ161 _ () h _ (join_imp 5 rfl rfl (mod_cons (j := 132) rfl (fun _ _ h => h) mod_nil) .nil)
        ·
         refine rd_vt rfl rfl (dj := 127) rfl g162 (v_move rfl) ?_
         refine cal_inv h fun y163 hy163 h => ?_
         refine rd_vt rfl rfl (dj := 127) rfl g162 (v_ix (l := q2) rfl (fun _ _ h => h) rfl sl63 hy163) ?_
         refine rd_vt rfl rfl (dj := 127) rfl g162 (v_loadI ty5 rfl) ?_
         refine rd_vt rfl rfl (dj := 127) rfl g162 (v_lss8 rfl rfl) ?_
         refine rd_v rfl (v_pick_f rfl g162 rfl) ?_
         exact hJ161 _ () h _ (join_imp 5 rfl rfl (mod_cons (j := 132) rfl (fun _ _ h => h) mod_nil) .nil)
      ·
       refine rd_condM (j := 119) h rfl (fun g158 h => ?_) (fun g158 h => ?_)
       ·
        refine rd_passV rfl rfl (dj := 119) rfl g158 ?_
        refine rd_passV rfl rfl (dj := 119) rfl g158 ?_
        refine rd_passV rfl rfl (dj := 119) rfl g158 ?_
        refine rd_passV rfl rfl (dj := 119) rfl g158 ?_
        refine rd_passV rfl rfl (dj := 119) rfl g158 ?_
        refine rd_passV rfl rfl (dj := 119) rfl g158 ?_
        refine rd_v rfl (v_pick_t rfl g158 rfl) ?_
        exact hJ157 _ () h _ (join_imp 7 rfl rfl (mod_cons (j := 126) rfl (fun _ _ h => h) mod_nil) .nil)
       ·
        refine rd_vt rfl rfl (dj := 119) rfl g158 (v_fi rfl GAcc.f1 fd183_1 rfl (z := (tab2 (shr8 (tab1 y99) (4 : UInt64).toNat)).hi)) ?_
        refine rd_vt rfl rfl (dj := 119) rfl g158 (v_loadI ty5 rfl) ?_
        refine rd_vt rfl rfl (dj := 119) rfl g158 (v_move rfl) ?_
        refine cal_inv h fun y159 hy159 h => ?_
        refine rd_vt rfl rfl (dj := 119) rfl g158 (v_ix (l := q2) rfl (fun _ _ h => h) rfl sl63 hy159) ?_
        refine rd_vt rfl rfl (dj := 119) rfl g158 (v_loadI ty5 rfl) ?_
        refine rd_vt rfl rfl (dj := 119) rfl g158 (v_lss8 rfl rfl) ?_
        refine rd_v rfl (v_pick_f rfl g158 rfl) ?_
        exact hJ157 _ () h _ (join_imp 7 rfl rfl (mod_cons (j := 126) rfl (fun _ _ h => h) mod_nil) .nil)
     ·
      refine rd_condM (j := 111) h rfl (fun g154 h => ?_) (fun g154 h => ?_)
      ·
       refine rd_passV rfl rfl (dj := 111) rfl g154 ?_
       refine rd_passV rfl rfl (dj := 111) rfl g154 ?_
       refine rd_passV rfl rfl (dj := 111) rfl g154 ?_
       refine rd_passV rfl rfl (dj := 111) rfl g154 ?_
       refine rd_passV rfl rfl (dj := 111) rfl g154 ?_
       refine rd_passV rfl rfl (dj := 111) rfl g154 ?_
       refine rd_v rfl (v_pick_t rfl g154 rfl) ?_
       exact hJ153 _ () h _ (join_imp 7 rfl rfl (mod_cons (j := 118) rfl (fun _ _ h => h) mod_nil) .nil)
      ·
       refine rd_vt rfl rfl (dj := 111) rfl g154 (v_move rfl) ?_
       refine cal_inv h fun y155 hy155 h => ?_
       refine rd_vt rfl rfl (dj := 111) rfl g154 (v_ix (l := q2) rfl (fun _ _ h => h) rfl sl63 hy155) ?_
       refine rd_vt rfl rfl (dj := 111) rfl g154 (v_loadI ty5 rfl) ?_
       refine rd_vt rfl rfl (dj := 111) rfl g154 (v_fi rfl GAcc.f0 fd183_0 rfl (z := (tab2 (shr8 (tab1 y99) (4 : UInt64).toNat)).lo)) ?_
       refine rd_vt rfl rfl (dj := 111) rfl g154 (v_loadI ty5 rfl) ?_
       refine rd_vt rfl rfl (dj := 111) rfl g154 (v_lss8 rfl rfl) ?_
       refine rd_v rfl (v_pick_f rfl g154 rfl) ?_
       exact hJ153 _ () h _ (join_imp 7 rfl rfl (mod_cons (j := 118) rfl (fun _ _ h => h) mod_nil) .nil)
    ·
     refine wsr ?_
     refine oV (v_eql rfl rfl) ?_
     refine oV (v_assign rfl) ?_
     refine rnf ?_
     refine w_condM h rfl (fun _ h => ?_) (fun _ h => ?_)
     ·
      refine w_seq ?_
      refine w_seq ?_
      refine w_regionD (.v 0 (.v 1 (.v 2 (.v 3 (.v 4 (.v 5 (.v 6 (.v 7 (.v 8 (.v 9 (.v 10 (.v 11 (.v 12 (.v 13 (.v 14 (.v 15 (.v 16 (.v 17 (.v 18 (.v 19 (.v 20 (.v 21 (.v 22 (.v 23 (.v 24 (.v 25 (.v 26 (.v 27 (.v 28 (.v 29 (.v 30 (.v 31 (.v 32 (.v 33 (.v 34 (.v 35 (.v 36 (.v 37 (.v 38 (.v 39 (.v 40 (.v 41 (.v 42 .nil))))))))))))))))))))))))))))))))))))))))))) moOrd (by kernel_rfl) ?_
      refine rd_v rfl (v_move rfl) ?_
      refine rd_v rfl (v_ln (l := q2) rfl (fun _ _ h => h) sl63) ?_
      refine rd_v rfl (v_lss rfl rfl) ?_
      refine rd_v rfl (v_move rfl) ?_
      refine rd_j (ι := Bool) (γ := Unit) (fun q169 g169 => [(153, isv (q169))]) (fun q169 g169 => []) .nil h 7 rfl (fun q169 g169 h => ?_) (fun J170 h hJ170 => ?_)
      ·
       refine rd_v rfl (v_move rfl) ?_
       refine rd_j (ι := Bool) (γ := Unit) (fun q173 g173 => [(161, isv (q173))]) (fun q173 g173 => []) .nil h 7 rfl (fun q173 g173 h => ?_) (fun J174 h hJ174 => ?_)
       ·
        refine rd_v rfl (v_move rfl) ?_
        refine rd_j (ι := Bool) (γ := Unit) (fun q177 g177 => [(167, isv (q177))]) (fun q177 g177 => []) .nil h 5 rfl (fun q177 g177 h => ?_) (fun J178 h hJ178 => ?_)
        ·
         refine rd_v rfl (v_move rfl) ?_
         refine rd_j (ι := Bool) (γ := Unit) (fun q181 g181 => [(173, isv (q181))]) (fun q181 g181 => []) .nil h 5 rfl (fun q181 g181 h => ?_) (fun J182 h hJ182 => ?_)
         ·
          refine rd_v rfl (v_move rfl) ?_
          refine rd_j (ι := Bool) (γ := Unit) (fun q185 g185 => [(179, isv (q185))]) (fun q185 g185 => []) .nil h 5 rfl (fun q185 g185 h => ?_) (fun J186 h hJ186 => ?_)
          ·
           refine rd_v rfl (v_move rfl) ?_
           refine rd_j (ι := Bool) (γ := Unit) (fun q189 g189 => [(185, isv (q189))]) (fun q189 g189 => []) .nil h 5 rfl (fun q189 g189 h => ?_) (fun J190 h hJ190 => ?_)
           ·
            refine rd_nil ?_
            refine fin_nxt ?_
            refine w_condM h rfl (fun _ h => ?_) (fun _ h => ?_)
            ·
             refine wsr ?_
             refine oV (v_assign rfl) ?_
             refine rnf ?_
             refine w_ret ?_
             refine ret_nxt ?_
             refine ret_block ?_
             refine ret_block ?_
             refine rL3 _ ?_
             refine ret_block ?_
             refine ret_nxt ?_
             refine ret_post (.tmp rfl .nil) .nil ?_
             obtain rfl := Option.some.inj h
             exact ⟨rfl, rfl⟩
            ·
             refine wkf ?_
             refine w_region ?_
             refine oV (v_move rfl) ?_
             refine asd_inv h fun q193 h => ?_
             refine oV (v_sl (l := q2) rfl (fun _ _ h => h) sl63 (.inr ⟨_, rfl, rfl⟩) (.inl ⟨rfl, rfl⟩) q193.1 q193.2.1 q193.2.2) ?_
             refine oV (v_assign rfl) ?_
             refine rl_nil ?_
             refine fin_block ?_
             refine fin_block ?_
             exact hL3 _ () h _ (join_imp 49 rfl rfl (mod_cons (j := 0) rfl (fun _ _ h => h) mod_nil) .nil)
           ·
            refine rd_condM (j := 180) h rfl (fun g191 h => ?_) (fun g191 h => ?_)
            ·
             refine rd_passV rfl rfl (dj := 180) rfl g191 ?_
             refine rd_passV rfl rfl (dj := 180) rfl g191 ?_
             refine rd_passV rfl rfl (dj := 180) rfl g191 ?_
             refine rd_passV rfl rfl (dj := 180) rfl g191 ?_
             refine rd_v rfl (v_pick_t rfl g191 rfl) ?_
             exact hJ190 _ () h _ (join_imp 5 rfl rfl (mod_cons (j := 185) rfl (fun _ _ h => h) mod_nil) .nil)
            ·
             refine rd_vt rfl rfl (dj := 180) rfl g191 (v_move rfl) ?_
             refine cal_inv h fun y192 hy192 h => ?_
             refine rd_vt rfl rfl (dj := 180) rfl g191 (v_ix (l := q2) rfl (fun _ _ h => h) rfl sl63 hy192) ?_
             refine rd_vt rfl rfl (dj := 180) rfl g191 (v_loadI ty5 rfl) ?_
             refine rd_vt rfl rfl (dj := 180) rfl g191 (v_lss8 rfl rfl) ?_
             refine rd_v rfl (v_pick_f rfl g191 rfl) ?_
             exact hJ190 _ () h _ (join_imp 5 rfl rfl (mod_cons (j := 185) rfl (fun _ _ h => h) mod_nil) .nil)
          ·
           refine rd_condM (j := 174) h rfl (fun g187 h => ?_) (fun g187 h => ?_)
           ·
            refine rd_passV rfl rfl (dj := 174) rfl g187 ?_
            refine rd_passV rfl rfl (dj := 174) rfl g187 ?_
            refine rd_passV rfl rfl (dj := 174) rfl g187 ?_
            refine rd_passV rfl rfl (dj := 174) rfl g187 ?_
            refine rd_v rfl (v_pick_t rfl g187 rfl) ?_
            exact hJ186 _ () h _ (join_imp 5 rfl rfl (mod_cons (j := 179) rfl (fun _ _ h => h) mod_nil) .nil)
           ·
            refine rd_vt rfl rfl (dj := 174) rfl g187 (v_move rfl) ?_
            refine cal_inv h fun y188 hy188 h => ?_
            refine rd_vt rfl rfl (dj := 174) rfl g187 (v_ix (l := q2) rfl (fun _ _ h => h) rfl sl63 hy188) ?_
            refine rd_vt rfl rfl (dj := 174) rfl g187 (v_loadI ty5 rfl) ?_
            refine rd_vt rfl rfl (dj := 174) rfl g187 (v_lss8 rfl rfl) ?_
            refine rd_v rfl (v_pick_f rfl g187 rfl) ?_
            exact hJ186 _ () h _ (join_imp 5 rfl rfl (mod_cons (j := 179) rfl (fun _ _ h => h) mod_nil) .nil)
         ·
          refine rd_condM (j := 168) h rfl (fun g183 h => ?_) (fun g183 h => ?_)
          ·
           refine rd_passV rfl rfl (dj := 168) rfl g183 ?_
           refine rd_passV rfl rfl (dj := 168) rfl g183 ?_
           refine rd_passV rfl rfl (dj := 168) rfl g183 ?_
           refine rd_passV rfl rfl (dj := 168) rfl g183 ?_
           refine rd_v rfl (v_pick_t rfl g183 rfl) ?_
           exact hJ182 _ () h _ (join_imp 5 rfl rfl (mod_cons (j := 173) rfl (fun _ _ h => h) mod_nil) .nil)
          ·
           refine rd_vt rfl rfl (dj := 168) rfl g183 (v_move rfl) ?_
           refine cal_inv h fun y184 hy184 h => ?_
           refine rd_vt rfl rfl (dj := 168) rfl g183 (v_ix (l := q2) rfl (fun _ _ h => h) rfl sl63 hy184) ?_
           refine rd_vt rfl rfl (dj := 168) rfl g183 (v_loadI ty5 rfl) ?_
           refine rd_vt rfl rfl (dj := 168) rfl g183 (v_lss8 rfl rfl) ?_
           refine rd_v rfl (v_pick_f rfl g183 rfl) ?_
           exact hJ182 _ () h _ (join_imp 5 rfl rfl (mod_cons (j := 173) rfl (fun _ _ h => h) mod_nil) .nil)
        ·
         refine rd_condM (j := 162) h rfl (fun g179 h => ?_) (fun g179 h => ?_)
         ·
          refine rd_passV rfl rfl (dj := 162) rfl g179 ?_
          refine rd_passV rfl rfl (dj := 162) rfl g179 ?_
          refine rd_passV rfl rfl (dj := 162) rfl g179 ?_
          refine rd_passV rfl rfl (dj := 162) rfl g179 ?_
          refine rd_v rfl (v_pick_t rfl g179 rfl) ?_
          exact hJ178 _ () h _ (join_imp 5 rfl rfl (mod_cons (j := 167) rfl (fun _ _ h => h) mod_nil) .nil)
         ·
          refine rd_vt rfl rfl (dj := 162) rfl g179 (v_move rfl) ?_
          refine cal_inv h fun y180 hy180 h => ?_
          refine rd_vt rfl rfl (dj := 162) rfl g179 (v_ix (l := q2) rfl (fun _ _ h => h) rfl sl63 hy180) ?_
          refine rd_vt rfl rfl (dj := 162) rfl g179 (v_loadI ty5 rfl) ?_
          refine rd_vt rfl rfl (dj := 162) rfl g179 (v_lss8 rfl rfl) ?_
          refine rd_v rfl (v_pick_f rfl g179 rfl) ?_
          exact hJ178 _ () h _ (join_imp 5 rfl rfl (mod_cons (j := 167) rfl (fun _ _ h => h) mod_nil) .nil)
       ·
        refine rd_condM (j := 154) h rfl (fun g175 h => ?_) (fun g175 h => ?_)
        ·
         refine rd_passV rfl rfl (dj := 154) rfl g175 ?_
         refine rd_passV rfl rfl (dj := 154) rfl g175 ?_
         refine rd_passV rfl rfl (dj := 154) rfl g175 ?_
         refine rd_passV rfl rfl (dj := 154) rfl g175 ?_
         refine rd_passV rfl rfl (dj := 154) rfl g175 ?_
         refine rd_passV rfl rfl (dj := 154) rfl g175 ?_
         refine rd_v rfl (v_pick_t rfl g175 rfl) ?_
         exact hJ174 _ () h _ (join_imp 7 rfl rfl (mod_cons (j := 161) rfl (fun _ _ h => h) mod_nil) .nil)
        ·
         refine rd_vt rfl rfl (dj := 154) rfl g175 (v_fi rfl GAcc.f1 fd183_1 rfl (z := (tab2 (shr8 (tab1 y99) (4 : UInt64).toNat)).hi)) ?_
         refine rd_vt rfl rfl (dj := 154) rfl g175 (v_loadI ty5 rfl) ?_
         refine rd_vt rfl rfl (dj := 154) rfl g175 (v_move rfl) ?_
         refine cal_inv h fun y176 hy176 h => ?_
         refine rd_vt rfl rfl (dj := 154) rfl g175 (v_ix (l := q2) rfl (fun _ _ h => h) rfl sl63 hy176) ?_
         refine rd_vt rfl rfl (dj := 154) rfl g175 (v_loadI ty5 rfl) ?_
         refine rd_vt rfl rfl (dj := 154) rfl g175 (v_lss8 rfl rfl) ?_
         refine rd_v rfl (v_pick_f rfl g175 rfl) ?_
         exact hJ174 _ () h _ (join_imp 7 rfl rfl (mod_cons (j := 161) rfl (fun _ _ h => h) mod_nil) .nil)
      ·
       refine rd_condM (j := 146) h rfl (fun g171 h => ?_) (fun g171 h => ?_)
       ·
        refine rd_passV rfl rfl (dj := 146) rfl g171 ?_
        refine rd_passV rfl rfl (dj := 146) rfl g171 ?_
        refine rd_passV rfl rfl (dj := 146) rfl g171 ?_
        refine rd_passV rfl rfl (dj := 146) rfl g171 ?_
        refine rd_passV rfl rfl (dj := 146) rfl g171 ?_
        refine rd_passV rfl rfl (dj := 146) rfl g171 ?_
        refine rd_v rfl (v_pick_t rfl g171 rfl) ?_
        exact hJ170 _ () h _ (join_imp 7 rfl rfl (mod_cons (j := 153) rfl (fun _ _ h => h) mod_nil) .nil)
       ·
        refine rd_vt rfl rfl (dj := 146) rfl g171 (v_move rfl) ?_
        refine cal_inv h fun y172 hy172 h => ?_
        refine rd_vt rfl rfl (dj := 146) rfl g171 (v_ix (l := q2) rfl (fun _ _ h => h) rfl sl63 hy172) ?_
        refine rd_vt rfl rfl (dj := 146) rfl g171 (v_loadI ty5 rfl) ?_
        refine rd_vt rfl rfl (dj := 146) rfl g171 (v_fi rfl GAcc.f0 fd183_0 rfl (z := (tab2 (shr8 (tab1 y99) (4 : UInt64).toNat)).lo)) ?_
        refine rd_vt rfl rfl (dj := 146) rfl g171 (v_loadI ty5 rfl) ?_
        refine rd_vt rfl rfl (dj := 146) rfl g171 (v_lss8 rfl rfl) ?_
        refine rd_v rfl (v_pick_f rfl g171 rfl) ?_
        exact hJ170 _ () h _ (join_imp 7 rfl rfl (mod_cons (j := 153) rfl (fun _ _ h => h) mod_nil) .nil)
     ·
      refine wsr ?_
      refine oV (v_assign rfl) ?_
      refine rnf ?_
      refine w_ret ?_
      refine ret_block ?_
      refine ret_block ?_
      refine rL3 _ ?_
      refine ret_block ?_
      refine ret_nxt ?_
      refine ret_post (.tmp rfl .nil) .nil ?_
      obtain rfl := Option.some.inj h
      exact ⟨rfl, rfl⟩
 ·
  refine w_exit ?_
  refine exi_nxt ?_
  refine eL3 _ _ ?_
  refine exi_block ?_
  refine fin_nxt ?_
  refine wsr ?_
  refine oV (v_assign rfl) ?_
  refine rnf ?_
  refine w_ret ?_
  refine ret_post (.tmp rfl .nil) .nil ?_
  obtain rfl := Option.some.inj h
  exact ⟨rfl, rfl⟩

end Go.Proofs.YtajbipkppngccaaDoor


namespace Go.Proofs.YtajbipkppngccaaDoor
open Go.Sy
set_option maxRecDepth 4000
theorem r10_maker_standard_w : ∀ {a_x : GMk} {a_i : Int} {a_v : Val} {b_a_x : Nat} {v_a_x1 : Vt} {r : Val × GMk}, r10_maker_standard a_x a_i a_v = some r → Ctr Tryd.prog 125 [ptrv b_a_x (Fld.id (GMod × Vh × Int)), isv (a_i), isv (a_v)] [boxE b_a_x ((a_x.m, (Vh.mk v_a_x1 a_x.l.length), a_x.e) : (GMod × Vh × Int)), vecE v_a_x1 (a_x.l : List GTyp)] (fun R H => R = oneOf [isv (r.1)] ∧ H = [boxE b_a_x ((r.2.m, (Vh.mk v_a_x1 r.2.l.length), r.2.e)), vecE v_a_x1 (r.2.l)]) := by
 intro a_x a_i a_v b_a_x v_a_x1 r h
 unfold r10_maker_standard at h
 refine spec_intro Tryd.func125 rfl (by decide +kernel) (by rfl) fun w0 S0 hT => ?_
 refine wsr ?_
 refine oT (t_boxC (y := a_v) rfl (fun _ _ h => h) fun b2 => ?_)
 refine oT (t_alloc _ ze67 fun b3 => ?_)
 refine rnf ?_
 refine wsr ?_
 refine oV (v_move rfl) ?_
 refine oV (v_nilCheck rfl) ?_
 refine oV (v_fa rfl pt113_0_1 fd113_1) ?_
 refine oT (t_loadC (R := vecv v_a_x1 (a_x.l.length)) ty24 rfl (.there (.there .here)) isvV1 ?_)
 refine oV (v_move rfl) ?_
 refine asd_inv h fun q4 h => ?_
 refine oV (v_vidx (α := GTyp) sl24 rfl rfl q4.1 q4.2) ?_
 refine cal_inv h fun y5 hy5 h => ?_
 refine oT (t_vload ty58 rfl (.there (.there (.there .here))) hy5 ?_)
 refine oT (t_alloc _ ze58 fun b6 => ?_)
 refine oT (t_storeC (y' := (y5 : GTyp)) ty58 rfl rfl (fun _ _ h => h) .here rfl ?_)
 refine rl_upd (upd_imm 7 .here rfl) ?_
 refine rnf ?_
 refine wsr ?_
 refine oV (v_fa rfl Val.f0 fd67_0) ?_
 refine oT (t_loadC (R := isv (a_v.kind)) ty3 rfl (.there .here) (fun _ _ h => h) ?_)
 refine oV (v_fi rfl GTyp.f0 fd58_0 rfl (z := y5.kind)) ?_
 refine oV (v_loadI ty3 rfl) ?_
 refine oV (v_eql rfl rfl) ?_
 refine oV (v_assign rfl) ?_
 refine rnf ?_
 refine w_seq ?_
 refine wsr ?_
 refine oV (v_fi rfl GTyp.f0 fd58_0 rfl (z := y5.kind)) ?_
 refine oV (v_loadI ty3 rfl) ?_
 refine rnf ?_
 refine w_J (ι := Bool × Val) (γ := Unit) (fun q7 g7 => [(5, ptrv b2 (Fld.id Val)), (8, isv (q7.1))]) (fun q7 g7 => [boxE b2 (q7.2 : Val)]) (.cons (.there .here) .nil) h (fun q7 g7 h => ?_) (fun J8 h hJ8 => ?_)
 ·
  refine w_seq ?_
  refine wsr ?_
  refine oV (v_move rfl) ?_
  refine oV (v_not rfl) ?_
  refine rnf ?_
  refine w_J (ι := GMk) (γ := Unit) (fun q51 g51 => []) (fun q51 g51 => [boxE b_a_x ((q51.m, (Vh.mk v_a_x1 q51.l.length), q51.e) : (GMod × Vh × Int)), vecE v_a_x1 (q51.l : List GTyp)]) (.cons (.there (.there .here)) (.cons (.there (.there .here)) .nil)) h (fun q51 g51 h => ?_) (fun J52 h hJ52 => ?_)
  ·
   refine wsr ?_
   refine oT (t_loadC (R := isv (q7.2)) ty67 rfl (.there (.there .here)) (fun _ _ h => h) ?_)
   refine oT (t_storeC (y' := (q7.2 : Val)) ty67 rfl rfl (fun _ _ h => h) (.there (.there (.there .here))) rfl ?_)
   refine rnf ?_
   refine w_ret ?_
   refine ret_post (.cell rfl .here ty67 .nil) (.cons (.there .here) (.cons (.there .here) .nil)) ?_
   obtain rfl := Option.some.inj h
   exact ⟨rfl, rfl⟩
  ·
   refine w_condM h rfl (fun _ h => ?_) (fun _ h => ?_)
   ·
    refine w_region ?_
    refine oV (v_move rfl) ?_
    refine cal_inv h fun y53 hy53 h => ?_
    refine oT (t_call (r10_maker_fail_w hy53) hT (.same rfl (.same rfl .nil)) (.cons (.there (.there .here)) (.cons (.there (.there .here)) .nil)) (fun R H' hR => ?_))
    obtain ⟨rfl, rfl⟩ := hR
    refine rl_nil ?_
    exact hJ52 _ () h _ (join_imp 2 rfl rfl mod_nil (.cons .here (.cons .here (.cons .here (.cons .here .nil)))))
   ·
    refine w_skip ?_
    exact hJ52 _ () h _ (join_imp 0 rfl rfl mod_nil (.cons (.there (.there .here)) (.cons (.there (.there .here)) (.cons .here (.cons .here .nil)))))
 ·
  refine w_block ?_
  refine w_seq ?_
  refine wsr ?_
  refine oV (v_eql rfl rfl) ?_
  refine oV (v_assign rfl) ?_
  refine rnf ?_
  refine w_J (ι := Bool) (γ := Unit) (fun q9 g9 => [(24, isv (q9))]) (fun q9 g9 => []) .nil h (fun q9 g9 h => ?_) (fun J10 h hJ10 => ?_)
  ·
   refine w_condM h rfl (fun _ h => ?_) (fun _ h => ?_)
   ·
    refine w_skip ?_
    refine fin_block ?_
    exact hJ8 _ () h _ (join_imp 3 rfl rfl (mod_cons (j := 5) rfl (fun _ _ h => h) (mod_cons (j := 8) rfl (fun _ _ h => h) mod_nil)) (.cons (.there .here) (.cons .here (.cons .here (.cons .here .nil)))))
   ·
    refine wsr ?_
    refine oV (v_eql rfl rfl) ?_
    refine oV (v_assign rfl) ?_
    refine rnf ?_
    refine w_condM h rfl (fun _ h => ?_) (fun _ h => ?_)
    ·
     refine w_region ?_
     refine oV (v_move rfl) ?_
     refine oV (v_move rfl) ?_
     refine rl_j (ι := Bool) (γ := Unit) (fun q11 g11 => [(36, isv (q11))]) (fun q11 g11 => []) .nil h 6 rfl (fun q11 g11 h => ?_) (fun J12 h hJ12 => ?_)
     ·
      refine oV (v_assign rfl) ?_
      refine rl_nil ?_
      refine fin_block ?_
      exact hJ8 _ () h _ (join_imp 9 rfl rfl (mod_cons (j := 5) rfl (fun _ _ h => h) (mod_cons (j := 8) rfl (fun _ _ h => h) mod_nil)) (.cons (.there .here) (.cons .here (.cons .here (.cons .here .nil)))))
     ·
      refine rl_condM (j := 30) h rfl (fun g13 h => ?_) (fun g13 h => ?_)
      ·
       refine op_take rfl rfl (dj := 30) rfl g13 (OpV.t (v_fi rfl GTyp.f2 fd58_2 rfl (z := y5.con)) ?_)
       refine op_take rfl rfl (dj := 30) rfl g13 (OpV.t (v_loadI ty54 rfl) ?_)
       refine op_take rfl rfl (dj := 30) rfl g13 (OpV.t (v_fa rfl Val.f1 fd67_1) ?_)
       refine op_take rfl rfl (dj := 30) rfl g13 (t_loadC (R := isv (a_v.n)) ty2 rfl (.there .here) (fun _ _ h => h) ?_)
       refine cal_inv h fun y14 hy14 h => ?_
       refine op_take rfl rfl (dj := 30) rfl g13 (t_call (r08_Within_w hy14) hT (.same rfl (.same rfl .nil)) .nil (fun R H' hR => ?_))
       obtain ⟨rfl, rfl⟩ := hR
       refine oV (v_pick_t rfl g13 rfl) ?_
       exact hJ12 _ () h _ (join_imp 6 rfl rfl (mod_cons (j := 36) rfl (fun _ _ h => h) mod_nil) (.cons .here (.cons .here (.cons .here (.cons .here .nil)))))
      ·
       refine op_pass rfl (dj := 30) rfl g13 ?_
       refine op_pass rfl (dj := 30) rfl g13 ?_
       refine op_pass rfl (dj := 30) rfl g13 ?_
       refine op_pass rfl (dj := 30) rfl g13 ?_
       refine op_pass rfl (dj := 30) rfl g13 ?_
       refine oV (v_pick_f rfl g13 rfl) ?_
       exact hJ12 _ () h _ (join_imp 6 rfl rfl (mod_cons (j := 36) rfl (fun _ _ h => h) mod_nil) (.cons .here (.cons .here (.cons .here (.cons .here .nil)))))
    ·
     refine w_seq ?_
     refine wsr ?_
     refine oV (v_eql rfl rfl) ?_
     refine oV (v_assign rfl) ?_
     refine rnf ?_
     refine w_J (ι := Bool) (γ := Unit) (fun q15 g15 => [(37, isv (q15))]) (fun q15 g15 => []) .nil h (fun q15 g15 h => ?_) (fun J16 h hJ16 => ?_)
     ·
      refine w_condM h rfl (fun _ h => ?_) (fun _ h => ?_)
      ·
       refine w_region ?_
       refine oV (v_move rfl) ?_
       refine oV (v_move rfl) ?_
       refine rl_j (ι := Bool) (γ := Unit) (fun q17 g17 => [(48, isv (q17))]) (fun q17 g17 => []) .nil h 7 rfl (fun q17 g17 h => ?_) (fun J18 h hJ18 => ?_)
       ·
        refine oV (v_move rfl) ?_
        refine rl_j (ι := Bool) (γ := Unit) (fun q21 g21 => [(58, isv (q21))]) (fun q21 g21 => []) .nil h 9 rfl (fun q21 g21 h => ?_) (fun J22 h hJ22 => ?_)
        ·
         refine oV (v_assign rfl) ?_
         refine rl_nil ?_
         refine fin_block ?_
         exact hJ8 _ () h _ (join_imp 14 rfl rfl (mod_cons (j := 5) rfl (fun _ _ h => h) (mod_cons (j := 8) rfl (fun _ _ h => h) mod_nil)) (.cons (.there .here) (.cons .here (.cons .here (.cons .here .nil)))))
        ·
         refine rl_condM (j := 49) h rfl (fun g23 h => ?_) (fun g23 h => ?_)
         ·
          refine op_take rfl rfl (dj := 49) rfl g23 (OpV.t (v_fi rfl GTyp.f0 fd58_0 rfl (z := y5.kind)) ?_)
          refine op_take rfl rfl (dj := 49) rfl g23 (OpV.t (v_loadI ty3 rfl) ?_)
          refine op_take rfl rfl (dj := 49) rfl g23 (OpV.t (v_eql rfl rfl) ?_)
          refine op_take rfl rfl (dj := 49) rfl g23 (OpV.t (v_move rfl) ?_)
          refine rl_j (ι := Bool) (γ := Unit) (fun q24 g24 => [(57, isv (q24))]) (fun q24 g24 => []) .nil h 4 rfl (fun q24 g24 h => ?_) (fun J25 h hJ25 => ?_)
          ·
           refine oV (v_pick_t rfl g23 rfl) ?_
           exact hJ22 _ () h _ (join_imp 6 rfl rfl (mod_cons (j := 58) rfl (fun _ _ h => h) mod_nil) (.cons .here (.cons .here (.cons .here (.cons .here .nil)))))
          ·
           refine rl_condM (j := 53) h rfl (fun g26 h => ?_) (fun g26 h => ?_)
           ·
            refine op_pass rfl (dj := 53) rfl g26 ?_
            refine op_pass rfl (dj := 53) rfl g26 ?_
            refine op_pass rfl (dj := 53) rfl g26 ?_
            refine op_take rfl rfl (dj := 49) rfl g23 (OpV.t (v_pick_t rfl g26 rfl) ?_)
            exact hJ25 _ () h _ (join_imp 4 rfl rfl (mod_cons (j := 57) rfl (fun _ _ h => h) mod_nil) (.cons .here (.cons .here (.cons .here (.cons .here .nil)))))
           ·
            refine op_take rfl rfl (dj := 53) rfl g26 (OpV.t (v_fa rfl Val.f2 fd67_2) ?_)
            refine op_take rfl rfl (dj := 53) rfl g26 (t_loadC (R := isv (a_v.b)) ty63 rfl (.there .here) (fun _ _ h => h) ?_)
            refine cal_inv h fun y27 hy27 h => ?_
            refine op_take rfl rfl (dj := 53) rfl g26 (t_call (utf8_Valid_w hy27) hT (.same rfl .nil) .nil (fun R H' hR => ?_))
            obtain ⟨rfl, rfl⟩ := hR
            refine op_take rfl rfl (dj := 49) rfl g23 (OpV.t (v_pick_f rfl g26 rfl) ?_)
            exact hJ25 _ () h _ (join_imp 4 rfl rfl (mod_cons (j := 57) rfl (fun _ _ h => h) mod_nil) (.cons .here (.cons .here (.cons .here (.cons .here .nil)))))
         ·
          refine op_pass rfl (dj := 49) rfl g23 ?_
          refine op_pass rfl (dj := 49) rfl g23 ?_
          refine op_pass rfl (dj := 49) rfl g23 ?_
          refine op_pass rfl (dj := 49) rfl g23 ?_
          refine op_passU rfl (dj := 53) rfl ?_
          refine op_passU rfl (dj := 53) rfl ?_
          refine op_passU rfl (dj := 53) rfl ?_
          refine op_pass rfl (dj := 49) rfl g23 ?_
          refine oV (v_pick_f rfl g23 rfl) ?_
          exact hJ22 _ () h _ (join_imp 9 rfl rfl (mod_cons (j := 58) rfl (fun _ _ h => h) mod_nil) (.cons .here (.cons .here (.cons .here (.cons .here .nil)))))
       ·
        refine rl_condM (j := 41) h rfl (fun g19 h => ?_) (fun g19 h => ?_)
        ·
         refine op_take rfl rfl (dj := 41) rfl g19 (OpV.t (v_fi rfl GTyp.f2 fd58_2 rfl (z := y5.con)) ?_)
         refine op_take rfl rfl (dj := 41) rfl g19 (OpV.t (v_loadI ty54 rfl) ?_)
         refine op_take rfl rfl (dj := 41) rfl g19 (OpV.t (v_fa rfl Val.f2 fd67_2) ?_)
         refine op_take rfl rfl (dj := 41) rfl g19 (t_loadC (R := isv (a_v.b)) ty63 rfl (.there .here) (fun _ _ h => h) ?_)
         refine op_take rfl rfl (dj := 41) rfl g19 (OpV.t (v_ln (l := a_v.b) rfl (fun _ _ h => h) sl63) ?_)
         refine cal_inv h fun y20 hy20 h => ?_
         refine op_take rfl rfl (dj := 41) rfl g19 (t_call (r08_Within_w hy20) hT (.same rfl (.same rfl .nil)) .nil (fun R H' hR => ?_))
         obtain ⟨rfl, rfl⟩ := hR
         refine oV (v_pick_t rfl g19 rfl) ?_
         exact hJ18 _ () h _ (join_imp 7 rfl rfl (mod_cons (j := 48) rfl (fun _ _ h => h) mod_nil) (.cons .here (.cons .here (.cons .here (.cons .here .nil)))))
        ·
         refine op_pass rfl (dj := 41) rfl g19 ?_
         refine op_pass rfl (dj := 41) rfl g19 ?_
         refine op_pass rfl (dj := 41) rfl g19 ?_
         refine op_pass rfl (dj := 41) rfl g19 ?_
         refine op_pass rfl (dj := 41) rfl g19 ?_
         refine op_pass rfl (dj := 41) rfl g19 ?_
         refine oV (v_pick_f rfl g19 rfl) ?_
         exact hJ18 _ () h _ (join_imp 7 rfl rfl (mod_cons (j := 48) rfl (fun _ _ h => h) mod_nil) (.cons .here (.cons .here (.cons .here (.cons .here .nil)))))
      ·
       refine wsr ?_
       refine oV (v_eql rfl rfl) ?_
       refine oV (v_assign rfl) ?_
       refine rnf ?_
       refine w_condM h rfl (fun _ h => ?_) (fun _ h => ?_)
       ·
        refine wsr ?_
        refine oV (v_move rfl) ?_
        refine rnf ?_
        refine w_condM h rfl (fun _ h => ?_) (fun _ h => ?_)
        ·
         refine wsr ?_
         refine oV (v_assign rfl) ?_
         refine rnf ?_
         refine wsr ?_
         refine oV (v_assign rfl) ?_
         refine rnf ?_
         refine w_block ?_
         refine w_lp (ι := Bool × Int × Val) (γ := Unit) (fun q28 g28 => [(5, ptrv b2 (Fld.id Val)), (8, isv (q28.1)), (9, isv (q28.2.1))]) (fun q28 g28 => [boxE b2 (q28.2.2 : Val)]) h () (mod_cons (j := 5) rfl (fun _ _ h => h) (mod_cons (j := 8) rfl (fun _ _ h => h) (mod_cons (j := 9) rfl (fun _ _ h => h) mod_nil))) (.cons (.there .here) .nil) (fun L29 q28 g28 Q50 h hL29 eL29 rL29 => ?_)
         refine w_seq ?_
         refine wsr ?_
         refine oV (v_move rfl) ?_
         refine oV (v_fi rfl GTyp.f5 fd58_5 rfl (z := y5.root)) ?_
         refine oV (v_loadI ty3 rfl) ?_
         refine oV (v_lss rfl rfl) ?_
         refine oV (v_move rfl) ?_
         refine rl_j (ι := Bool) (γ := Unit) (fun q40 g40 => [(69, isv (q40))]) (fun q40 g40 => []) .nil h 3 rfl (fun q40 g40 h => ?_) (fun J41 h hJ41 => ?_)
         ·
          refine rnf ?_
          refine w_condM h rfl (fun _ h => ?_) (fun _ h => ?_)
          ·
           refine wkf ?_
           refine w_seq ?_
           refine w_J (ι := Bool × Val) (γ := Unit) (fun q43 g43 => [(5, ptrv b2 (Fld.id Val)), (8, isv (q43.1))]) (fun q43 g43 => [boxE b2 (q43.2 : Val)]) (.cons .here .nil) h (fun q43 g43 h => ?_) (fun J44 h hJ44 => ?_)
           ·
            refine w_region ?_
            refine oV (v_move rfl) ?_
            refine ck_inv h fun q49 h => ?_
            refine oV (v_add rfl rfl q49) ?_
            refine oV (v_assign rfl) ?_
            refine rl_nil ?_
            exact hL29 _ () h _ (join_imp 14 rfl rfl (mod_cons (j := 5) rfl (fun _ _ h => h) (mod_cons (j := 8) rfl (fun _ _ h => h) (mod_cons (j := 9) rfl (fun _ _ h => h) mod_nil))) (.cons .here (.cons .here (.cons .here (.cons .here .nil)))))
           ·
            refine w_block ?_
            refine w_seq ?_
            refine w_pinN 5 .here rfl (fun o45 hn46 => ?_)
            refine w_regionD (.v 0 (.v 1 (.v 2 (.v 3 (.v 4 (.v 5 (.v 6 (.v 7 (.v 8 (.v 9 .nil)))))))))) moOrd (by kernel_rfl) ?_
            refine rd_v rfl (v_fi rfl GTyp.f3 fd58_3 rfl (z := y5.items)) ?_
            refine rd_v rfl (v_loadI ty55 rfl) ?_
            refine rd_v rfl (v_move rfl) ?_
            refine cal_inv h fun y47 hy47 h => ?_
            refine rd_v rfl (v_ix (l := y5.items) rfl (fun _ _ h => h) rfl sl55 hy47) ?_
            refine rd_v rfl (v_fi rfl GItem.f0 fd71_0 rfl (z := y47.name)) ?_
            refine rd_v rfl (v_loadI ty9 rfl) ?_
            refine rd_v rfl (v_fp rfl Val.f2 fd67_2) ?_
            refine rd_v rfl (v_lpC (R := isv (q28.2.2.b)) ty63 rfl (List.Mem.head _) (fun _ _ h => h)) ?_
            refine rd_v rfl (v_bs (l := q28.2.2.b) Tryd.underlying63 Tryd.underlying5 Tryd.underlying9 rfl (fun _ _ h => h)) ?_
            refine rd_v rfl (v_eqA eq9 rfl rfl) ?_
            refine rd_nil ?_
            refine fin_unpinN 5 hn46 rfl ?_
            refine fin_nxt ?_
            refine w_condM h rfl (fun _ h => ?_) (fun _ h => ?_)
            ·
             refine w_region ?_
             refine oV (v_fi rfl GTyp.f3 fd58_3 rfl (z := y5.items)) ?_
             refine oV (v_loadI ty55 rfl) ?_
             refine oV (v_move rfl) ?_
             refine cal_inv h fun y48 hy48 h => ?_
             refine oV (v_ix (l := y5.items) rfl (fun _ _ h => h) rfl sl55 hy48) ?_
             refine oV (v_fi rfl GItem.f1 fd71_1 rfl (z := y48.number)) ?_
             refine oV (v_loadI ty2 rfl) ?_
             refine oV (v_build (z := (Val.mk (3 : Int) y48.number ([] : (List UInt8)) ([] : (List Val)) (0 : Int) ([] : (List Raw)))) rfl bu67 ze67 (.cons Val.f0 fd67_0 rfl (fun _ _ h => h) (.cons Val.f1 fd67_1 rfl (fun _ _ h => h) .nil))) ?_
             refine oT (t_storeC (y' := ((Val.mk (3 : Int) y48.number ([] : (List UInt8)) ([] : (List Val)) (0 : Int) ([] : (List Raw))) : Val)) ty67 rfl rfl (fun _ _ h => h) .here rfl ?_)
             refine oV (v_assign rfl) ?_
             refine rl_nil ?_
             refine fin_block ?_
             exact hJ44 _ () h _ (join_imp 20 rfl rfl (mod_cons (j := 5) rfl (fun _ _ h => h) (mod_cons (j := 8) rfl (fun _ _ h => h) mod_nil)) (.cons .here (.cons .here (.cons .here (.cons .here .nil)))))
            ·
             refine w_skip ?_
             refine fin_block ?_
             exact hJ44 _ () h _ (join_imp 12 rfl rfl (mod_cons (j := 5) rfl (fun _ _ h => h) (mod_cons (j := 8) rfl (fun _ _ h => h) mod_nil)) (.cons .here (.cons .here (.cons .here (.cons .here .nil)))))
          ·
           refine w_exit ?_
           refine exi_nxt ?_
           refine eL29 _ _ ?_
           refine exi_block ?_
           refine fin_block ?_
           exact hJ8 _ () h _ (join_imp 22 rfl rfl (mod_cons (j := 5) rfl (fun _ _ h => h) (mod_cons (j := 8) rfl (fun _ _ h => h) mod_nil)) (.cons .here (.cons .here (.cons .here (.cons .here .nil)))))
         ·
          refine rl_condM (j := 66) h rfl (fun g42 h => ?_) (fun g42 h => ?_)
          ·
           refine op_take rfl rfl (dj := 66) rfl g42 (OpV.t (v_move rfl) ?_)
           refine op_take rfl rfl (dj := 66) rfl g42 (OpV.t (v_not rfl) ?_)
           refine oV (v_pick_t rfl g42 rfl) ?_
           exact hJ41 _ () h _ (join_imp 3 rfl rfl (mod_cons (j := 69) rfl (fun _ _ h => h) mod_nil) (.cons .here (.cons .here (.cons .here (.cons .here .nil)))))
          ·
           refine op_pass rfl (dj := 66) rfl g42 ?_
           refine op_pass rfl (dj := 66) rfl g42 ?_
           refine oV (v_pick_f rfl g42 rfl) ?_
           exact hJ41 _ () h _ (join_imp 3 rfl rfl (mod_cons (j := 69) rfl (fun _ _ h => h) mod_nil) (.cons .here (.cons .here (.cons .here (.cons .here .nil)))))
        ·
         refine w_skip ?_
         refine fin_block ?_
         exact hJ8 _ () h _ (join_imp 11 rfl rfl (mod_cons (j := 5) rfl (fun _ _ h => h) (mod_cons (j := 8) rfl (fun _ _ h => h) mod_nil)) (.cons (.there .here) (.cons .here (.cons .here (.cons .here .nil)))))
       ·
        refine w_region ?_
        refine oV (v_assign rfl) ?_
        refine rl_nil ?_
        refine fin_block ?_
        exact hJ8 _ () h _ (join_imp 11 rfl rfl (mod_cons (j := 5) rfl (fun _ _ h => h) (mod_cons (j := 8) rfl (fun _ _ h => h) mod_nil)) (.cons (.there .here) (.cons .here (.cons .here (.cons .here .nil)))))
     ·
      refine w_condM h rfl (fun _ h => ?_) (fun _ h => ?_)
      ·
       refine w_skip ?_
       exact hJ16 _ () h _ (join_imp 0 rfl rfl (mod_cons (j := 37) rfl (fun _ _ h => h) mod_nil) (.cons .here (.cons .here (.cons .here (.cons .here .nil)))))
      ·
       refine w_region ?_
       refine oV (v_eql rfl rfl) ?_
       refine oV (v_assign rfl) ?_
       refine rl_nil ?_
       exact hJ16 _ () h _ (join_imp 2 rfl rfl (mod_cons (j := 37) rfl (fun _ _ h => h) mod_nil) (.cons .here (.cons .here (.cons .here (.cons .here .nil)))))
  ·
   refine w_condM h rfl (fun _ h => ?_) (fun _ h => ?_)
   ·
    refine w_skip ?_
    exact hJ10 _ () h _ (join_imp 0 rfl rfl (mod_cons (j := 24) rfl (fun _ _ h => h) mod_nil) (.cons .here (.cons .here (.cons .here (.cons .here .nil)))))
   ·
    refine w_region ?_
    refine oV (v_eql rfl rfl) ?_
    refine oV (v_assign rfl) ?_
    refine rl_nil ?_
    exact hJ10 _ () h _ (join_imp 2 rfl rfl (mod_cons (j := 24) rfl (fun _ _ h => h) mod_nil) (.cons .here (.cons .here (.cons .here (.cons .here .nil)))))


theorem r10_maker_soft_w : ∀ {a_x : GMk} {a_i : Int} {b_a_x : Nat} {v_a_x1 : Vt} {r : Int × GMk}, r10_maker_soft a_x a_i = some r → Ctr Tryd.prog 86 [ptrv b_a_x (Fld.id (GMod × Vh × Int)), isv (a_i)] [boxE b_a_x ((a_x.m, (Vh.mk v_a_x1 a_x.l.length), a_x.e) : (GMod × Vh × Int)), vecE v_a_x1 (a_x.l : List GTyp)] (fun R H => R = oneOf [isv (r.1)] ∧ H = [boxE b_a_x ((r.2.m, (Vh.mk v_a_x1 r.2.l.length), r.2.e)), vecE v_a_x1 (r.2.l)]) := by
 intro a_x a_i b_a_x v_a_x1 r h
 unfold r10_maker_soft at h
 refine spec_intro Tryd.func86 rfl (by decide +kernel) (by rfl) fun w0 S0 hT => ?_
 refine wsr ?_
 refine oV (v_assign rfl) ?_
 refine rnf ?_
 refine w_seq ?_
 refine wsr ?_
 refine oV (v_move rfl) ?_
 refine oV (v_nilCheck rfl) ?_
 refine oV (v_fa rfl pt113_0_1 fd113_1) ?_
 refine oT (t_loadC (R := vecv v_a_x1 (a_x.l.length)) ty24 rfl .here isvV1 ?_)
 refine oV (v_move rfl) ?_
 refine asd_inv h fun q2 h => ?_
 refine oV (v_vidx (α := GTyp) sl24 rfl rfl q2.1 q2.2) ?_
 refine oV (v_fv rfl GTyp.f1 fd58_1) ?_
 refine cal_inv h fun y3 hy3 h => ?_
 refine oT (t_vload ty52 rfl (.there .here) hy3 ?_)
 refine oV (v_ln (l := y3.tags) rfl (fun _ _ h => h) sl52) ?_
 refine oV (v_gtr rfl rfl) ?_
 refine rnf ?_
 refine w_condM h rfl (fun _ h => ?_) (fun _ h => ?_)
 ·
  refine wsr ?_
  refine oV (v_assign rfl) ?_
  refine rnf ?_
  refine w_ret ?_
  refine ret_nxt ?_
  refine ret_post (.tmp rfl .nil) (.cons .here (.cons .here .nil)) ?_
  obtain rfl := Option.some.inj h
  exact ⟨rfl, rfl⟩
 ·
  refine wkf ?_
  refine wsr ?_
  refine oV (v_assign rfl) ?_
  refine rnf ?_
  refine w_ret ?_
  refine ret_post (.tmp rfl .nil) (.cons .here (.cons .here .nil)) ?_
  obtain rfl := Option.some.inj h
  exact ⟨rfl, rfl⟩


theorem r09_Wrap_w : ∀ {a_tags : (List Tag)} {a_number : Int} {a_mode : Int} {r : (List Tag) × Int}, r09_Wrap a_tags a_number a_mode = some r → Ctr Tryd.prog 115 [isv (a_tags), isv (a_number), isv (a_mode)] [] (fun R H => R = oneOf [isv (r.1), isv (r.2)] ∧ H = []) := by
 intro a_tags a_number a_mode r h
 unfold r09_Wrap at h
 refine spec_intro Tryd.func115 rfl (by decide +kernel) (by rfl) fun w0 S0 hT => ?_
 refine wsr ?_
 refine oV (v_assign rfl) ?_
 refine oV (v_assign rfl) ?_
 refine rnf ?_
 refine w_seq ?_
 refine wsr ?_
 refine oV (v_move rfl) ?_
 refine oV (v_lss rfl rfl) ?_
 refine oV (v_move rfl) ?_
 refine rl_j (ι := Bool) (γ := Unit) (fun q1 g1 => [(14, isv (q1))]) (fun q1 g1 => []) .nil h 3 rfl (fun q1 g1 h => ?_) (fun J2 h hJ2 => ?_)
 ·
  refine oV (v_move rfl) ?_
  refine rl_j (ι := Bool) (γ := Unit) (fun q4 g4 => [(23, isv (q4))]) (fun q4 g4 => []) .nil h 8 rfl (fun q4 g4 h => ?_) (fun J5 h hJ5 => ?_)
  ·
   refine rnf ?_
   refine w_condM h rfl (fun _ h => ?_) (fun _ h => ?_)
   ·
    refine wsr ?_
    refine oV (v_assign rfl) ?_
    refine oV (v_assign rfl) ?_
    refine rnf ?_
    refine w_ret ?_
    refine ret_nxt ?_
    refine ret_post (.as rfl (nilv_isv (α := Tag)) (.tmp rfl .nil)) .nil ?_
    obtain rfl := Option.some.inj h
    exact ⟨rfl, rfl⟩
   ·
    refine wkf ?_
    refine wsr ?_
    refine oV (v_move rfl) ?_
    refine oV (v_build (z := (Tag.mk (2 : Int) a_number)) rfl bu61 ze61 (.cons Tag.f0 fd61_0 rfl (fun _ _ h => h) (.cons Tag.f1 fd61_1 rfl (fun _ _ h => h) .nil))) ?_
    refine oT (t_buildSlice (l := ([(Tag.mk (2 : Int) a_number)] : (List Tag))) el52 (.cons rfl (fun _ _ h => h) .nil) rfl rfl ?_)
    refine oV (v_assign rfl) ?_
    refine rnf ?_
    refine w_seq ?_
    refine wsr ?_
    refine oV (v_move rfl) ?_
    refine oV (v_eql rfl rfl) ?_
    refine rnf ?_
    refine w_condM h rfl (fun _ h => ?_) (fun _ h => ?_)
    ·
     refine wsr ?_
     refine oV (v_move rfl) ?_
     refine oV (v_move rfl) ?_
     refine asd_inv h fun q11 h => ?_
     refine oV (v_sl (l := a_tags) rfl (fun _ _ h => h) sl52 (.inr ⟨_, rfl, rfl⟩) (.inl ⟨rfl, rfl⟩) q11.1 q11.2.1 q11.2.2) ?_
     refine rl_upd (upd_tok) ?_
     refine asr_inv h fun q13 h => ?_
     refine oT (t_appC (l := ([(Tag.mk (2 : Int) a_number)] : (List Tag))) (m := ((a_tags.take ((a_tags.length : Int)).toNat).drop ((1 : Int)).toNat)) ap52_52 rfl (fun _ _ h => h) rfl (fun _ _ h => h) .here q13 fun t12 => ?_)
     refine oV (v_assign rfl) ?_
     refine oV (v_assign rfl) ?_
     refine rnf ?_
     refine w_ret ?_
     refine ret_nxt ?_
     refine ret_post (.as rfl appv_isv (.tmp rfl .nil)) .nil ?_
     obtain rfl := Option.some.inj h
     exact ⟨rfl, rfl⟩
    ·
     refine wkf ?_
     refine wsr ?_
     refine oV (v_move rfl) ?_
     refine oV (v_move rfl) ?_
     refine rl_upd (upd_tok) ?_
     refine asr_inv h fun q15 h => ?_
     refine oT (t_appC (l := ([(Tag.mk (2 : Int) a_number)] : (List Tag))) (m := a_tags) ap52_52 rfl (fun _ _ h => h) rfl (fun _ _ h => h) .here q15 fun t14 => ?_)
     refine oV (v_assign rfl) ?_
     refine oV (v_assign rfl) ?_
     refine rnf ?_
     refine w_ret ?_
     refine ret_post (.as rfl appv_isv (.tmp rfl .nil)) .nil ?_
     obtain rfl := Option.some.inj h
     exact ⟨rfl, rfl⟩
  ·
   refine rl_condM (j := 15) h rfl (fun g6 h => ?_) (fun g6 h => ?_)
   ·
    refine op_pass rfl (dj := 15) rfl g6 ?_
    refine op_pass rfl (dj := 15) rfl g6 ?_
    refine op_pass rfl (dj := 15) rfl g6 ?_
    refine op_passU rfl (dj := 18) rfl ?_
    refine op_passU rfl (dj := 18) rfl ?_
    refine op_passU rfl (dj := 18) rfl ?_
    refine op_pass rfl (dj := 15) rfl g6 ?_
    refine oV (v_pick_t rfl g6 rfl) ?_
    exact hJ5 _ () h _ (join_imp 8 rfl rfl (mod_cons (j := 23) rfl (fun _ _ h => h) mod_nil) .nil)
   ·
    refine op_take rfl rfl (dj := 15) rfl g6 (OpV.t (v_move rfl) ?_)
    refine op_take rfl rfl (dj := 15) rfl g6 (OpV.t (v_eql rfl rfl) ?_)
    refine op_take rfl rfl (dj := 15) rfl g6 (OpV.t (v_move rfl) ?_)
    refine rl_j (ι := Bool) (γ := Unit) (fun q7 g7 => [(22, isv (q7))]) (fun q7 g7 => []) .nil h 4 rfl (fun q7 g7 h => ?_) (fun J8 h hJ8 => ?_)
    ·
     refine oV (v_pick_f rfl g6 rfl) ?_
     exact hJ5 _ () h _ (join_imp 5 rfl rfl (mod_cons (j := 23) rfl (fun _ _ h => h) mod_nil) .nil)
    ·
     refine rl_condM (j := 18) h rfl (fun g9 h => ?_) (fun g9 h => ?_)
     ·
      refine op_take rfl rfl (dj := 18) rfl g9 (OpV.t (v_move rfl) ?_)
      refine op_take rfl rfl (dj := 18) rfl g9 (OpV.t (v_ln (l := a_tags) rfl (fun _ _ h => h) sl52) ?_)
      refine op_take rfl rfl (dj := 18) rfl g9 (OpV.t (v_eql rfl rfl) ?_)
      refine op_take rfl rfl (dj := 15) rfl g6 (OpV.t (v_pick_t rfl g9 rfl) ?_)
      exact hJ8 _ () h _ (join_imp 4 rfl rfl (mod_cons (j := 22) rfl (fun _ _ h => h) mod_nil) .nil)
     ·
      refine op_pass rfl (dj := 18) rfl g9 ?_
      refine op_pass rfl (dj := 18) rfl g9 ?_
      refine op_pass rfl (dj := 18) rfl g9 ?_
      refine op_take rfl rfl (dj := 15) rfl g6 (OpV.t (v_pick_f rfl g9 rfl) ?_)
      exact hJ8 _ () h _ (join_imp 4 rfl rfl (mod_cons (j := 22) rfl (fun _ _ h => h) mod_nil) .nil)
 ·
  refine rl_condM (j := 11) h rfl (fun g3 h => ?_) (fun g3 h => ?_)
  ·
   refine op_pass rfl (dj := 11) rfl g3 ?_
   refine op_pass rfl (dj := 11) rfl g3 ?_
   refine oV (v_pick_t rfl g3 rfl) ?_
   exact hJ2 _ () h _ (join_imp 3 rfl rfl (mod_cons (j := 14) rfl (fun _ _ h => h) mod_nil) .nil)
  ·
   refine op_take rfl rfl (dj := 11) rfl g3 (OpV.t (v_move rfl) ?_)
   refine op_take rfl rfl (dj := 11) rfl g3 (OpV.t (v_gtr rfl rfl) ?_)
   refine oV (v_pick_f rfl g3 rfl) ?_
   exact hJ2 _ () h _ (join_imp 3 rfl rfl (mod_cons (j := 14) rfl (fun _ _ h => h) mod_nil) .nil)


theorem r10_maker_wrap_w : ∀ {a_x : GMk} {a_i : Int} {a_number : Int} {a_mode : Int} {b_a_x : Nat} {v_a_x1 : Vt} {r : GMk}, r10_maker_wrap a_x a_i a_number a_mode = some r → Ctr Tryd.prog 87 [ptrv b_a_x (Fld.id (GMod × Vh × Int)), isv (a_i), isv (a_number), isv (a_mode)] [boxE b_a_x ((a_x.m, (Vh.mk v_a_x1 a_x.l.length), a_x.e) : (GMod × Vh × Int)), vecE v_a_x1 (a_x.l : List GTyp)] (fun R H => R = oneOf [] ∧ H = [boxE b_a_x ((r.m, (Vh.mk v_a_x1 r.l.length), r.e)), vecE v_a_x1 (r.l)]) := by
 intro a_x a_i a_number a_mode b_a_x v_a_x1 r h
 unfold r10_maker_wrap at h
 refine spec_intro Tryd.func87 rfl (by decide +kernel) (by rfl) fun w0 S0 hT => ?_
 refine w_seq ?_
 refine wsr ?_
 refine oV (v_move rfl) ?_
 refine oV (v_nilCheck rfl) ?_
 refine oV (v_fa rfl pt113_0_2 fd113_2) ?_
 refine oT (t_loadC (R := isv (a_x.e)) ty30 rfl .here (fun _ _ h => h) ?_)
 refine oV (v_neq rfl rfl) ?_
 refine rnf ?_
 refine w_condM h rfl (fun _ h => ?_) (fun _ h => ?_)
 ·
  refine w_ret ?_
  refine ret_nxt ?_
  refine ret_post .nil (.cons .here (.cons .here .nil)) ?_
  obtain rfl := Option.some.inj h
  exact ⟨rfl, rfl⟩
 ·
  refine wkf ?_
  refine wsr ?_
  refine oV (v_move rfl) ?_
  refine oV (v_nilCheck rfl) ?_
  refine oV (v_fa rfl pt113_0_1 fd113_1) ?_
  refine oT (t_loadC (R := vecv v_a_x1 (a_x.l.length)) ty24 rfl .here isvV1 ?_)
  refine oV (v_move rfl) ?_
  refine asd_inv h fun q2 h => ?_
  refine oV (v_vidx (α := GTyp) sl24 rfl rfl q2.1 q2.2) ?_
  refine oV (v_fv rfl GTyp.f1 fd58_1) ?_
  refine cal_inv h fun y3 hy3 h => ?_
  refine oT (t_vload ty52 rfl (.there .here) hy3 ?_)
  refine oV (v_move rfl) ?_
  refine oV (v_move rfl) ?_
  refine cal_inv h fun y4 hy4 h => ?_
  refine oT (t_call (r09_Wrap_w hy4) hT (.same rfl (.same rfl (.same rfl .nil))) .nil (fun R H' hR => ?_))
  obtain ⟨rfl, rfl⟩ := hR
  refine oV (v_move rfl) ?_
  refine oV (v_extract rfl rfl) ?_
  refine oV (v_extract rfl rfl) ?_
  refine oV (v_assign rfl) ?_
  refine oV (v_assign rfl) ?_
  refine rnf ?_
  refine w_seq ?_
  refine wsr ?_
  refine oV (v_move rfl) ?_
  refine oV (v_neq rfl rfl) ?_
  refine rnf ?_
  refine w_condM h rfl (fun _ h => ?_) (fun _ h => ?_)
  ·
   refine wsr ?_
   refine oV (v_move rfl) ?_
   refine oV (v_move rfl) ?_
   refine cal_inv h fun y5 hy5 h => ?_
   refine oT (t_call (r10_maker_fail_w hy5) hT (.same rfl (.same rfl .nil)) (.cons .here (.cons .here .nil)) (fun R H' hR => ?_))
   obtain ⟨rfl, rfl⟩ := hR
   refine rnf ?_
   refine w_ret ?_
   refine ret_nxt ?_
   refine ret_post .nil (.cons .here (.cons .here .nil)) ?_
   obtain rfl := Option.some.inj h
   exact ⟨rfl, rfl⟩
  ·
   refine wkf ?_
   refine w_region ?_
   refine oV (v_move rfl) ?_
   refine oV (v_nilCheck rfl) ?_
   refine oV (v_fa rfl pt113_0_1 fd113_1) ?_
   refine oT (t_loadC (R := vecv v_a_x1 (a_x.l.length)) ty24 rfl .here isvV1 ?_)
   refine oV (v_move rfl) ?_
   refine oV (v_move rfl) ?_
   refine asd_inv h fun q6 h => ?_
   refine oV (v_vidx (α := GTyp) sl24 rfl rfl q6.1 q6.2) ?_
   refine oV (v_fv rfl GTyp.f1 fd58_1) ?_
   refine cal_inv h fun y7 hy7 h => ?_
   refine oT (t_vstore ty52 rfl rfl (.there .here) hy7 ?_)
   refine rl_upd (upd_box (y := ((a_x.m, (Vh.mk v_a_x1 (a_x.l.set a_i.toNat ({ y7 with tags := y4.1 })).length), a_x.e) : (GMod × Vh × Int))) (.there .here) (fun S => (Cv.pair Cv.id (Cv.pair (Cv.vhe (by first | rfl | simp)) Cv.id)))) ?_
   refine rl_nil ?_
   refine fin_post .nil (.cons .here (.cons .here .nil)) ?_
   obtain rfl := Option.some.inj h
   exact ⟨rfl, rfl⟩


def r10_wild_C (f' : (List GTyp) → Int → Option (Bool)) : Prop :=
 ∀ {a_l : (List GTyp)} {a_i : Int} {v_a_l : Vt} {r : Bool}, f' a_l a_i = some r → Ctr Tryd.prog 142 [vecv v_a_l (a_l.length), isv (a_i)] [vecE v_a_l (a_l : List GTyp)] (fun R H => R = oneOf [isv (r)] ∧ H = [vecE v_a_l (a_l : List GTyp)])
theorem r10_wild_w0 {r10_wild' : (List GTyp) → Int → Option (Bool)} (h_r10_wild : r10_wild_C r10_wild') : ∀ {a_l : (List GTyp)} {a_i : Int} {v_a_l : Vt} {r : Bool}, r10_wild_F r10_wild' a_l a_i = some r → Ctr Tryd.prog 142 [vecv v_a_l (a_l.length), isv (a_i)] [vecE v_a_l (a_l : List GTyp)] (fun R H => R = oneOf [isv (r)] ∧ H = [vecE v_a_l (a_l : List GTyp)]) := by
 intro a_l a_i v_a_l r h
 unfold r10_wild_F at h
 refine spec_intro Tryd.func142 rfl (by decide +kernel) (by rfl) fun w0 S0 hT => ?_
 refine wsr ?_
 refine oV (v_assign rfl) ?_
 refine rnf ?_
 refine w_seq ?_
 refine wsr ?_
 refine oV (v_move rfl) ?_
 refine oV (v_move rfl) ?_
 refine asd_inv h fun q1 h => ?_
 refine oV (v_vidx (α := GTyp) sl24 rfl rfl q1.1 q1.2) ?_
 refine oV (v_fv rfl GTyp.f0 fd58_0) ?_
 refine cal_inv h fun y2 hy2 h => ?_
 refine oT (t_vload ty3 rfl .here hy2 ?_)
 refine oV (v_neq rfl rfl) ?_
 refine oV (v_move rfl) ?_
 refine rl_j (ι := Bool) (γ := Unit) (fun q3 g3 => [(21, isv (q3))]) (fun q3 g3 => []) .nil h 8 rfl (fun q3 g3 h => ?_) (fun J4 h hJ4 => ?_)
 ·
  refine rnf ?_
  refine w_condM h rfl (fun _ h => ?_) (fun _ h => ?_)
  ·
   refine wsr ?_
   refine oV (v_assign rfl) ?_
   refine rnf ?_
   refine w_ret ?_
   refine ret_nxt ?_
   refine ret_post (.tmp rfl .nil) (.cons .here .nil) ?_
   obtain rfl := Option.some.inj h
   exact ⟨rfl, rfl⟩
  ·
   refine wkf ?_
   refine wsr ?_
   refine oV (v_move rfl) ?_
   refine oV (v_move rfl) ?_
   refine asd_inv h fun q8 h => ?_
   refine oV (v_vidx (α := GTyp) sl24 rfl rfl q8.1 q8.2) ?_
   refine oV (v_fv rfl GTyp.f6 fd58_6) ?_
   refine cal_inv h fun y9 hy9 h => ?_
   refine oT (t_vload ty4 rfl .here hy9 ?_)
   refine oV (v_assign rfl) ?_
   refine rnf ?_
   refine w_seq ?_
   refine wsr ?_
   refine oV (v_assign rfl) ?_
   refine rnf ?_
   refine w_block ?_
   refine w_lp (ι := Bool × Int) (γ := Unit) (fun q10 g10 => [(5, isv (q10.1)), (6, isv (q10.2))]) (fun q10 g10 => []) h () (mod_cons (j := 5) rfl (fun _ _ h => h) (mod_cons (j := 6) rfl (fun _ _ h => h) mod_nil)) .nil (fun L11 q10 g10 Q32 h hL11 eL11 rL11 => ?_)
   refine w_seq ?_
   refine wsr ?_
   refine oV (v_move rfl) ?_
   refine oV (v_move rfl) ?_
   refine oV (v_move rfl) ?_
   refine asd_inv h fun q22 h => ?_
   refine oV (v_vidx (α := GTyp) sl24 rfl rfl q22.1 q22.2) ?_
   refine oV (v_fv rfl GTyp.f4 fd58_4) ?_
   refine cal_inv h fun y23 hy23 h => ?_
   refine oT (t_vload ty56 rfl .here hy23 ?_)
   refine oV (v_ln (l := y23.fields) rfl (fun _ _ h => h) sl56) ?_
   refine oV (v_lss rfl rfl) ?_
   refine rnf ?_
   refine w_condM h rfl (fun _ h => ?_) (fun _ h => ?_)
   ·
    refine wkf ?_
    refine w_seq ?_
    refine w_block ?_
    refine w_region ?_
    refine oV (v_move rfl) ?_
    refine oV (v_move rfl) ?_
    refine rl_j (ι := Bool) (γ := Unit) (fun q24 g24 => [(50, isv (q24))]) (fun q24 g24 => []) .nil h 12 rfl (fun q24 g24 h => ?_) (fun J25 h hJ25 => ?_)
    ·
     refine oV (v_assign rfl) ?_
     refine rl_nil ?_
     refine fin_block ?_
     refine fin_nxt ?_
     refine w_region ?_
     refine oV (v_move rfl) ?_
     refine ck_inv h fun q31 h => ?_
     refine oV (v_add rfl rfl q31) ?_
     refine oV (v_assign rfl) ?_
     refine rl_nil ?_
     exact hL11 _ () h _ (join_imp 17 rfl rfl (mod_cons (j := 5) rfl (fun _ _ h => h) (mod_cons (j := 6) rfl (fun _ _ h => h) mod_nil)) (.cons .here .nil))
    ·
     refine rl_condM (j := 38) h rfl (fun g26 h => ?_) (fun g26 h => ?_)
     ·
      refine op_pass rfl (dj := 38) rfl g26 ?_
      refine op_pass rfl (dj := 38) rfl g26 ?_
      refine op_pass rfl (dj := 38) rfl g26 ?_
      refine op_pass rfl (dj := 38) rfl g26 ?_
      refine op_pass rfl (dj := 38) rfl g26 ?_
      refine op_pass rfl (dj := 38) rfl g26 ?_
      refine op_pass rfl (dj := 38) rfl g26 ?_
      refine op_pass rfl (dj := 38) rfl g26 ?_
      refine op_pass rfl (dj := 38) rfl g26 ?_
      refine op_pass rfl (dj := 38) rfl g26 ?_
      refine op_pass rfl (dj := 38) rfl g26 ?_
      refine oV (v_pick_t rfl g26 rfl) ?_
      exact hJ25 _ () h _ (join_imp 12 rfl rfl (mod_cons (j := 50) rfl (fun _ _ h => h) mod_nil) (.cons .here .nil))
     ·
      refine op_take rfl rfl (dj := 38) rfl g26 (OpV.t (v_move rfl) ?_)
      refine op_take rfl rfl (dj := 38) rfl g26 (OpV.t (v_move rfl) ?_)
      refine op_take rfl rfl (dj := 38) rfl g26 (OpV.t (v_move rfl) ?_)
      refine asd_inv h fun q27 h => ?_
      refine op_take rfl rfl (dj := 38) rfl g26 (OpV.t (v_vidx (α := GTyp) sl24 rfl rfl q27.1 q27.2) ?_)
      refine op_take rfl rfl (dj := 38) rfl g26 (OpV.t (v_fv rfl GTyp.f4 fd58_4) ?_)
      refine cal_inv h fun y28 hy28 h => ?_
      refine op_take rfl rfl (dj := 38) rfl g26 (t_vload ty56 rfl .here hy28 ?_)
      refine op_take rfl rfl (dj := 38) rfl g26 (OpV.t (v_move rfl) ?_)
      refine cal_inv h fun y29 hy29 h => ?_
      refine op_take rfl rfl (dj := 38) rfl g26 (OpV.t (v_ix (l := y28.fields) rfl (fun _ _ h => h) rfl sl56 hy29) ?_)
      refine op_take rfl rfl (dj := 38) rfl g26 (OpV.t (v_fi rfl GFld.f1 fd69_1 rfl (z := y29.ty)) ?_)
      refine op_take rfl rfl (dj := 38) rfl g26 (OpV.t (v_loadI ty3 rfl) ?_)
      refine cal_inv h fun y30 hy30 h => ?_
      refine op_take rfl rfl (dj := 38) rfl g26 (t_call (h_r10_wild hy30) hT (.cons rfl (fun _ _ h => vecvE (by first | rfl | simp) _ _ h) (.same rfl .nil)) (.cons .here .nil) (fun R H' hR => ?_))
      obtain ⟨rfl, rfl⟩ := hR
      refine oV (v_pick_f rfl g26 rfl) ?_
      exact hJ25 _ () h _ (join_imp 12 rfl rfl (mod_cons (j := 50) rfl (fun _ _ h => h) mod_nil) (.cons .here .nil))
   ·
    refine w_exit ?_
    refine exi_nxt ?_
    refine eL11 _ _ ?_
    refine exi_block ?_
    refine fin_nxt ?_
    refine wsr ?_
    refine oV (v_move rfl) ?_
    refine oV (v_assign rfl) ?_
    refine rnf ?_
    refine w_ret ?_
    refine ret_post (.tmp rfl .nil) (.cons .here .nil) ?_
    obtain rfl := Option.some.inj h
    exact ⟨rfl, rfl⟩
 ·
  refine rl_condM (j := 13) h rfl (fun g5 h => ?_) (fun g5 h => ?_)
  ·
   refine op_pass rfl (dj := 13) rfl g5 ?_
   refine op_pass rfl (dj := 13) rfl g5 ?_
   refine op_pass rfl (dj := 13) rfl g5 ?_
   refine op_pass rfl (dj := 13) rfl g5 ?_
   refine op_pass rfl (dj := 13) rfl g5 ?_
   refine op_pass rfl (dj := 13) rfl g5 ?_
   refine op_pass rfl (dj := 13) rfl g5 ?_
   refine oV (v_pick_t rfl g5 rfl) ?_
   exact hJ4 _ () h _ (join_imp 8 rfl rfl (mod_cons (j := 21) rfl (fun _ _ h => h) mod_nil) (.cons .here .nil))
  ·
   refine op_take rfl rfl (dj := 13) rfl g5 (OpV.t (v_move rfl) ?_)
   refine op_take rfl rfl (dj := 13) rfl g5 (OpV.t (v_move rfl) ?_)
   refine asd_inv h fun q6 h => ?_
   refine op_take rfl rfl (dj := 13) rfl g5 (OpV.t (v_vidx (α := GTyp) sl24 rfl rfl q6.1 q6.2) ?_)
   refine op_take rfl rfl (dj := 13) rfl g5 (OpV.t (v_fv rfl GTyp.f1 fd58_1) ?_)
   refine cal_inv h fun y7 hy7 h => ?_
   refine op_take rfl rfl (dj := 13) rfl g5 (t_vload ty52 rfl .here hy7 ?_)
   refine op_take rfl rfl (dj := 13) rfl g5 (OpV.t (v_ln (l := y7.tags) rfl (fun _ _ h => h) sl52) ?_)
   refine op_take rfl rfl (dj := 13) rfl g5 (OpV.t (v_gtr rfl rfl) ?_)
   refine oV (v_pick_f rfl g5 rfl) ?_
   exact hJ4 _ () h _ (join_imp 8 rfl rfl (mod_cons (j := 21) rfl (fun _ _ h => h) mod_nil) (.cons .here .nil))

theorem r10_wild_grp_w : ∀ n, r10_wild_C (r10_wild n)
 | 0 => fun h => (by cases h)
 | n + 1 => r10_wild_w0 (r10_wild_grp_w n)
theorem r10_wild_w (n : Nat) : r10_wild_C (r10_wild n) := (r10_wild_grp_w n)

def r10_begins_C (f' : (List GTyp) → Int → Option ((List Tag))) : Prop :=
 ∀ {a_l : (List GTyp)} {a_i : Int} {v_a_l : Vt} {r : (List Tag)}, f' a_l a_i = some r → Ctr Tryd.prog 74 [vecv v_a_l (a_l.length), isv (a_i)] [vecE v_a_l (a_l : List GTyp)] (fun R H => R = oneOf [isv (r)] ∧ H = [vecE v_a_l (a_l : List GTyp)])
theorem r10_begins_w0 {r10_begins' : (List GTyp) → Int → Option ((List Tag))} (h_r10_begins : r10_begins_C r10_begins') : ∀ {a_l : (List GTyp)} {a_i : Int} {v_a_l : Vt} {r : (List Tag)}, r10_begins_F r10_begins' a_l a_i = some r → Ctr Tryd.prog 74 [vecv v_a_l (a_l.length), isv (a_i)] [vecE v_a_l (a_l : List GTyp)] (fun R H => R = oneOf [isv (r)] ∧ H = [vecE v_a_l (a_l : List GTyp)]) := by
 intro a_l a_i v_a_l r h
 unfold r10_begins_F at h
 refine spec_intro Tryd.func74 rfl (by decide +kernel) (by rfl) fun w0 S0 hT => ?_
 refine wsr ?_
 refine oV (v_assign rfl) ?_
 refine rnf ?_
 refine w_seq ?_
 refine wsr ?_
 refine oV (v_move rfl) ?_
 refine oV (v_move rfl) ?_
 refine asd_inv h fun q1 h => ?_
 refine oV (v_vidx (α := GTyp) sl24 rfl rfl q1.1 q1.2) ?_
 refine oV (v_fv rfl GTyp.f1 fd58_1) ?_
 refine cal_inv h fun y2 hy2 h => ?_
 refine oT (t_vload ty52 rfl .here hy2 ?_)
 refine oV (v_ln (l := y2.tags) rfl (fun _ _ h => h) sl52) ?_
 refine oV (v_gtr rfl rfl) ?_
 refine rnf ?_
 refine w_condM h rfl (fun _ h => ?_) (fun _ h => ?_)
 ·
  refine wsr ?_
  refine oV (v_move rfl) ?_
  refine oV (v_move rfl) ?_
  refine asd_inv h fun q3 h => ?_
  refine oV (v_vidx (α := GTyp) sl24 rfl rfl q3.1 q3.2) ?_
  refine oV (v_fv rfl GTyp.f1 fd58_1) ?_
  refine cal_inv h fun y4 hy4 h => ?_
  refine oT (t_vload ty52 rfl .here hy4 ?_)
  refine asd_inv h fun q5 h => ?_
  refine oV (v_sl (l := y4.tags) rfl (fun _ _ h => h) sl52 (.inl ⟨rfl, rfl⟩) (.inr ⟨_, rfl, rfl⟩) q5.1 q5.2.1 q5.2.2) ?_
  refine oV (v_assign rfl) ?_
  refine rnf ?_
  refine w_ret ?_
  refine ret_nxt ?_
  refine ret_post (.tmp rfl .nil) (.cons .here .nil) ?_
  obtain rfl := Option.some.inj h
  exact ⟨rfl, rfl⟩
 ·
  refine wkf ?_
  refine wsr ?_
  refine oV (v_assign rfl) ?_
  refine rnf ?_
  refine w_seq ?_
  refine wsr ?_
  refine oV (v_assign rfl) ?_
  refine rnf ?_
  refine w_block ?_
  refine w_upd (upd_tok) ?_
  refine w_lp (ι := (List Tag) × Int) (γ := Tok) (fun q6 g6 => [(5, appv g6 (q6.1)), (6, isv (q6.2))]) (fun q6 g6 => [tokE g6]) h (none) (mod_cons (j := 5) rfl nilv_appv (mod_cons (j := 6) rfl (fun _ _ h => h) mod_nil)) (.cons .here .nil) (fun L7 q6 g6 Q27 h hL7 eL7 rL7 => ?_)
  refine w_seq ?_
  refine wsr ?_
  refine oV (v_move rfl) ?_
  refine oV (v_move rfl) ?_
  refine oV (v_move rfl) ?_
  refine asd_inv h fun q17 h => ?_
  refine oV (v_vidx (α := GTyp) sl24 rfl rfl q17.1 q17.2) ?_
  refine oV (v_fv rfl GTyp.f4 fd58_4) ?_
  refine cal_inv h fun y18 hy18 h => ?_
  refine oT (t_vload ty56 rfl (.there .here) hy18 ?_)
  refine oV (v_ln (l := y18.fields) rfl (fun _ _ h => h) sl56) ?_
  refine oV (v_lss rfl rfl) ?_
  refine rnf ?_
  refine w_condM h rfl (fun _ h => ?_) (fun _ h => ?_)
  ·
   refine wkf ?_
   refine w_seq ?_
   refine w_block ?_
   refine w_region ?_
   refine oV (v_move rfl) ?_
   refine oV (v_move rfl) ?_
   refine oV (v_move rfl) ?_
   refine oV (v_move rfl) ?_
   refine asd_inv h fun q19 h => ?_
   refine oV (v_vidx (α := GTyp) sl24 rfl rfl q19.1 q19.2) ?_
   refine oV (v_fv rfl GTyp.f4 fd58_4) ?_
   refine cal_inv h fun y20 hy20 h => ?_
   refine oT (t_vload ty56 rfl (.there .here) hy20 ?_)
   refine oV (v_move rfl) ?_
   refine cal_inv h fun y21 hy21 h => ?_
   refine oV (v_ix (l := y20.fields) rfl (fun _ _ h => h) rfl sl56 hy21) ?_
   refine oV (v_fi rfl GFld.f1 fd69_1 rfl (z := y21.ty)) ?_
   refine oV (v_loadI ty3 rfl) ?_
   refine cal_inv h fun y22 hy22 h => ?_
   refine oT (t_call (h_r10_begins hy22) hT (.cons rfl (fun _ _ h => vecvE (by first | rfl | simp) _ _ h) (.same rfl .nil)) (.cons (.there .here) .nil) (fun R H' hR => ?_))
   obtain ⟨rfl, rfl⟩ := hR
   refine asr_inv h fun q24 h => ?_
   refine oT (t_appC (l := q6.1) (m := y22) ap52_52 rfl (fun _ _ h => h) rfl (fun _ _ h => h) (.there .here) q24 fun t23 => ?_)
   refine oV (v_assign rfl) ?_
   refine rl_nil ?_
   refine fin_block ?_
   refine fin_nxt ?_
   refine w_region ?_
   refine oV (v_move rfl) ?_
   refine ck_inv h fun q25 h => ?_
   refine oV (v_add rfl rfl q25) ?_
   refine oV (v_assign rfl) ?_
   refine rl_nil ?_
   exact hL7 _ (t23) h _ (join_imp 27 rfl rfl (mod_cons (j := 5) rfl (fun _ _ h => h) (mod_cons (j := 6) rfl (fun _ _ h => h) mod_nil)) (.cons .here (.cons .here .nil)))
  ·
   refine w_exit ?_
   refine exi_nxt ?_
   refine eL7 _ _ ?_
   refine exi_block ?_
   refine fin_nxt ?_
   refine wsr ?_
   refine oV (v_move rfl) ?_
   refine oV (v_assign rfl) ?_
   refine rnf ?_
   refine w_ret ?_
   refine ret_post (.as rfl appv_isv .nil) (.cons (.there .here) .nil) ?_
   obtain rfl := Option.some.inj h
   exact ⟨rfl, rfl⟩

theorem r10_begins_grp_w : ∀ n, r10_begins_C (r10_begins n)
 | 0 => fun h => (by cases h)
 | n + 1 => r10_begins_w0 (r10_begins_grp_w n)
theorem r10_begins_w (n : Nat) : r10_begins_C (r10_begins n) := (r10_begins_grp_w n)

theorem h_In_api_Tag_w : ∀ {a_l : (List Tag)} {a_x : Tag} {r : Bool}, h_In_api_Tag a_l a_x = some r → Ctr Tryd.prog 144 [isv (a_l), isv (a_x)] [] (fun R H => R = oneOf [isv (r)] ∧ H = []) := by
 intro a_l a_x r h
 unfold h_In_api_Tag at h
 refine spec_intro Tryd.func144 rfl (by decide +kernel) (by rfl) fun w0 S0 hT => ?_
 refine wsr ?_
 refine oT (t_boxIC (y := a_x) rfl (fun _ _ h => h) ?_)
 refine oV (v_assign rfl) ?_
 refine rnf ?_
 refine w_seq ?_
 refine wsr ?_
 refine oV (v_assign rfl) ?_
 refine rnf ?_
 refine w_block ?_
 refine w_lp (ι := Int) (γ := Unit) (fun q1 g1 => [(5, isv (q1))]) (fun q1 g1 => []) h () (mod_cons (j := 5) rfl (fun _ _ h => h) mod_nil) .nil (fun L2 q1 g1 Q7 h hL2 eL2 rL2 => ?_)
 refine w_seq ?_
 refine wsr ?_
 refine oV (v_move rfl) ?_
 refine oV (v_move rfl) ?_
 refine oV (v_ln (l := a_l) rfl (fun _ _ h => h) sl52) ?_
 refine oV (v_lss rfl rfl) ?_
 refine rnf ?_
 refine w_condM h rfl (fun _ h => ?_) (fun _ h => ?_)
 ·
  refine wkf ?_
  refine w_seq ?_
  refine w_block ?_
  refine w_seq ?_
  refine w_regionD (.v 0 (.v 1 (.v 2 (.v 3 (.v 4 (.v 5 .nil)))))) moOrd (by kernel_rfl) ?_
  refine rd_v rfl (v_move rfl) ?_
  refine rd_v rfl (v_move rfl) ?_
  refine cal_inv h fun y5 hy5 h => ?_
  refine rd_v rfl (v_ix (l := a_l) rfl (fun _ _ h => h) rfl sl52 hy5) ?_
  refine rd_v rfl (v_loadI ty61 rfl) ?_
  refine rd_v rfl (v_loadI ty61 rfl) ?_
  refine rd_v rfl (v_eqA eq61 rfl rfl) ?_
  refine rd_nil ?_
  refine fin_nxt ?_
  refine w_condM h rfl (fun _ h => ?_) (fun _ h => ?_)
  ·
   refine wsr ?_
   refine oV (v_assign rfl) ?_
   refine rnf ?_
   refine w_ret ?_
   refine ret_block ?_
   refine ret_nxt ?_
   refine rL2 _ ?_
   refine ret_block ?_
   refine ret_nxt ?_
   refine ret_post (.tmp rfl .nil) .nil ?_
   obtain rfl := Option.some.inj h
   exact ⟨rfl, rfl⟩
  ·
   refine w_skip ?_
   refine fin_block ?_
   refine fin_nxt ?_
   refine w_region ?_
   refine oV (v_move rfl) ?_
   refine ck_inv h fun q6 h => ?_
   refine oV (v_add rfl rfl q6) ?_
   refine oV (v_assign rfl) ?_
   refine rl_nil ?_
   exact hL2 _ () h _ (join_imp 14 rfl rfl (mod_cons (j := 5) rfl (fun _ _ h => h) mod_nil) .nil)
 ·
  refine w_exit ?_
  refine exi_nxt ?_
  refine eL2 _ _ ?_
  refine exi_block ?_
  refine fin_nxt ?_
  refine wsr ?_
  refine oV (v_assign rfl) ?_
  refine rnf ?_
  refine w_ret ?_
  refine ret_post (.tmp rfl .nil) .nil ?_
  obtain rfl := Option.some.inj h
  exact ⟨rfl, rfl⟩


theorem r09_Distinct_w : ∀ {a_sets : (List (List Tag))} {r : Bool}, r09_Distinct a_sets = some r → Ctr Tryd.prog 143 [isv (a_sets)] [] (fun R H => R = oneOf [isv (r)] ∧ H = []) := by
 intro a_sets r h
 unfold r09_Distinct at h
 refine spec_intro Tryd.func143 rfl (by decide +kernel) (by rfl) fun w0 S0 hT => ?_
 refine wsr ?_
 refine oV (v_assign rfl) ?_
 refine rnf ?_
 refine wsr ?_
 refine oV (v_assign rfl) ?_
 refine rnf ?_
 refine w_seq ?_
 refine wsr ?_
 refine oV (v_assign rfl) ?_
 refine rnf ?_
 refine w_block ?_
 refine w_upd (upd_tok) ?_
 refine w_lp (ι := (List Tag) × Int) (γ := Tok) (fun q1 g1 => [(3, appv g1 (q1.1)), (4, isv (q1.2))]) (fun q1 g1 => [tokE g1]) h (none) (mod_cons (j := 3) rfl nilv_appv (mod_cons (j := 4) rfl (fun _ _ h => h) mod_nil)) (.cons .here .nil) (fun L2 q1 g1 Q55 h hL2 eL2 rL2 => ?_)
 refine w_seq ?_
 refine wsr ?_
 refine oV (v_move rfl) ?_
 refine oV (v_move rfl) ?_
 refine oV (v_ln (l := a_sets) rfl (fun _ _ h => h) sl194) ?_
 refine oV (v_lss rfl rfl) ?_
 refine rnf ?_
 refine w_condM h rfl (fun _ h => ?_) (fun _ h => ?_)
 ·
  refine wkf ?_
  refine w_seq ?_
  refine w_block ?_
  refine wsr ?_
  refine oV (v_assign rfl) ?_
  refine rnf ?_
  refine w_block ?_
  refine w_lp (ι := (List Tag) × Int) (γ := Tok) (fun q29 g29 => [(3, appv g29 (q29.1)), (5, isv (q29.2))]) (fun q29 g29 => [tokE g29]) h (g1) (mod_cons (j := 3) rfl (fun _ _ h => h) (mod_cons (j := 5) rfl (fun _ _ h => h) mod_nil)) (.cons .here .nil) (fun L30 q29 g29 Q53 h hL30 eL30 rL30 => ?_)
  refine w_seq ?_
  refine wsr ?_
  refine oV (v_move rfl) ?_
  refine oV (v_move rfl) ?_
  refine oV (v_move rfl) ?_
  refine cal_inv h fun y42 hy42 h => ?_
  refine oV (v_ix (l := a_sets) rfl (fun _ _ h => h) rfl sl194 hy42) ?_
  refine oV (v_loadI ty52 rfl) ?_
  refine oV (v_ln (l := y42) rfl (fun _ _ h => h) sl52) ?_
  refine oV (v_lss rfl rfl) ?_
  refine rnf ?_
  refine w_condM h rfl (fun _ h => ?_) (fun _ h => ?_)
  ·
   refine wkf ?_
   refine w_seq ?_
   refine w_block ?_
   refine w_seq ?_
   refine wsr ?_
   refine oV (v_move rfl) ?_
   refine oV (v_move rfl) ?_
   refine oV (v_move rfl) ?_
   refine cal_inv h fun y43 hy43 h => ?_
   refine oV (v_ix (l := a_sets) rfl (fun _ _ h => h) rfl sl194 hy43) ?_
   refine oV (v_loadI ty52 rfl) ?_
   refine oV (v_move rfl) ?_
   refine cal_inv h fun y44 hy44 h => ?_
   refine oV (v_ix (l := y43) rfl (fun _ _ h => h) rfl sl52 hy44) ?_
   refine oV (v_loadI ty61 rfl) ?_
   refine cal_inv h fun y45 hy45 h => ?_
   refine oT (t_call (h_In_api_Tag_w hy45) hT (.cons rfl appv_isv (.same rfl .nil)) .nil (fun R H' hR => ?_))
   obtain ⟨rfl, rfl⟩ := hR
   refine rnf ?_
   refine w_condM h rfl (fun _ h => ?_) (fun _ h => ?_)
   ·
    refine wsr ?_
    refine oV (v_assign rfl) ?_
    refine rnf ?_
    refine w_ret ?_
    refine ret_nxt ?_
    refine ret_block ?_
    refine ret_nxt ?_
    refine rL30 _ ?_
    refine ret_block ?_
    refine ret_block ?_
    refine ret_nxt ?_
    refine rL2 _ ?_
    refine ret_block ?_
    refine ret_nxt ?_
    refine ret_post (.tmp rfl .nil) .nil ?_
    obtain rfl := Option.some.inj h
    exact ⟨rfl, rfl⟩
   ·
    refine wkf ?_
    refine w_region ?_
    refine oV (v_move rfl) ?_
    refine oV (v_move rfl) ?_
    refine oV (v_move rfl) ?_
    refine cal_inv h fun y46 hy46 h => ?_
    refine oV (v_ix (l := a_sets) rfl (fun _ _ h => h) rfl sl194 hy46) ?_
    refine oV (v_loadI ty52 rfl) ?_
    refine oV (v_move rfl) ?_
    refine cal_inv h fun y47 hy47 h => ?_
    refine oV (v_ix (l := y46) rfl (fun _ _ h => h) rfl sl52 hy47) ?_
    refine oV (v_loadI ty61 rfl) ?_
    refine oT (t_buildSlice (l := ([y47] : (List Tag))) el52 (.cons rfl (fun _ _ h => h) .nil) rfl rfl ?_)
    refine asr_inv h fun q50 h => ?_
    refine oT (t_appC (l := q29.1) (m := ([y47] : (List Tag))) ap52_52 rfl (fun _ _ h => h) rfl appv_isv .here q50 fun t49 => ?_)
    refine oV (v_assign rfl) ?_
    refine rl_nil ?_
    refine fin_block ?_
    refine fin_nxt ?_
    refine w_region ?_
    refine oV (v_move rfl) ?_
    refine ck_inv h fun q51 h => ?_
    refine oV (v_add rfl rfl q51) ?_
    refine oV (v_assign rfl) ?_
    refine rl_nil ?_
    exact hL30 _ (t49) h _ (join_imp 32 rfl rfl (mod_cons (j := 3) rfl (fun _ _ h => h) (mod_cons (j := 5) rfl (fun _ _ h => h) mod_nil)) (.cons .here .nil))
  ·
   refine w_exit ?_
   refine exi_nxt ?_
   refine eL30 _ _ ?_
   refine exi_block ?_
   refine fin_block ?_
   refine fin_nxt ?_
   refine w_region ?_
   refine oV (v_move rfl) ?_
   refine ck_inv h fun q52 h => ?_
   refine oV (v_add rfl rfl q52) ?_
   refine oV (v_assign rfl) ?_
   refine rl_nil ?_
   exact hL2 _ (g29) h _ (join_imp 19 rfl rfl (mod_cons (j := 3) rfl (fun _ _ h => h) (mod_cons (j := 4) rfl (fun _ _ h => h) mod_nil)) (.cons .here .nil))
 ·
  refine w_exit ?_
  refine exi_nxt ?_
  refine eL2 _ _ ?_
  refine exi_block ?_
  refine fin_nxt ?_
  refine wsr ?_
  refine oV (v_assign rfl) ?_
  refine rnf ?_
  refine w_ret ?_
  refine ret_post (.tmp rfl .nil) .nil ?_
  obtain rfl := Option.some.inj h
  exact ⟨rfl, rfl⟩


theorem r10_maker_told_w : ∀ {a_x : GMk} {a_l : (List GFld)} {a_open_ : Bool} {b_a_x : Nat} {v_a_x1 : Vt} {r : Bool × GMk}, r10_maker_told a_x a_l a_open_ = some r → Ctr Tryd.prog 136 [ptrv b_a_x (Fld.id (GMod × Vh × Int)), isv (a_l), isv (a_open_)] [boxE b_a_x ((a_x.m, (Vh.mk v_a_x1 a_x.l.length), a_x.e) : (GMod × Vh × Int)), vecE v_a_x1 (a_x.l : List GTyp)] (fun R H => R = oneOf [isv (r.1)] ∧ H = [boxE b_a_x ((r.2.m, (Vh.mk v_a_x1 r.2.l.length), r.2.e)), vecE v_a_x1 (r.2.l)]) := by
 intro a_x a_l a_open_ b_a_x v_a_x1 r h
 unfold r10_maker_told at h
 refine spec_intro Tryd.func136 rfl (by decide +kernel) (by rfl) fun w0 S0 hT => ?_
 refine wsr ?_
 refine oV (v_assign rfl) ?_
 refine rnf ?_
 refine wsr ?_
 refine oV (v_assign rfl) ?_
 refine rnf ?_
 refine w_seq ?_
 refine wsr ?_
 refine oV (v_assign rfl) ?_
 refine rnf ?_
 refine w_block ?_
 refine w_upd (upd_tok) ?_
 refine w_lp (ι := (List (List Tag)) × Int) (γ := Tok) (fun q2 g2 => [(0, ptrv b_a_x (Fld.id (GMod × Vh × Int))), (7, appv g2 (q2.1)), (8, isv (q2.2))]) (fun q2 g2 => [tokE g2]) h (none) (mod_cons (j := 0) rfl (fun _ _ h => h) (mod_cons (j := 7) rfl nilv_appv (mod_cons (j := 8) rfl (fun _ _ h => h) mod_nil))) (.cons .here .nil) (fun L3 q2 g2 Q43 h hL3 eL3 rL3 => ?_)
 refine w_seq ?_
 refine wsr ?_
 refine oV (v_move rfl) ?_
 refine oV (v_move rfl) ?_
 refine oV (v_ln (l := a_l) rfl (fun _ _ h => h) sl56) ?_
 refine oV (v_lss rfl rfl) ?_
 refine rnf ?_
 refine w_condM h rfl (fun _ h => ?_) (fun _ h => ?_)
 ·
  refine wkf ?_
  refine w_seq ?_
  refine w_block ?_
  refine w_seq ?_
  refine w_seq ?_
  refine w_pinN 0 (.there .here) rfl (fun o23 hn24 => ?_)
  refine w_regionD (.v 0 (.v 1 (.v 2 (.v 3 (.v 4 (.v 5 (.v 6 (.v 7 (.v 8 (.t 9 (.v 10 (.v 11 (.v 12 (.v 13 (.v 14 (.v 15 (.v 16 (.v 17 .nil)))))))))))))))))) moOrd (by kernel_rfl) ?_
  refine rd_v rfl (v_move rfl) ?_
  refine rd_v rfl (v_nilCheckP rfl) ?_
  refine rd_v rfl (v_fp rfl pt113_0_1 fd113_1) ?_
  refine rd_v rfl (v_lpC (R := vecv v_a_x1 (a_x.l.length)) ty24 rfl (List.Mem.head _) isvV1) ?_
  refine rd_v rfl (v_move rfl) ?_
  refine rd_v rfl (v_move rfl) ?_
  refine cal_inv h fun y25 hy25 h => ?_
  refine rd_v rfl (v_ix (l := a_l) rfl (fun _ _ h => h) rfl sl56 hy25) ?_
  refine rd_v rfl (v_fi rfl GFld.f1 fd69_1 rfl (z := y25.ty)) ?_
  refine rd_v rfl (v_loadI ty3 rfl) ?_
  refine cal_inv h fun y26 hy26 h => ?_
  refine rd_t rfl rfl (t_call (r10_wild_w fuel hy26) hT (.cons rfl (fun _ _ h => vecvE (by first | rfl | simp) _ _ h) (.same rfl .nil)) (.cons (.there .here) .nil) (fun R H' hR => ?_))
  obtain ⟨rfl, rfl⟩ := hR
  refine rd_v rfl (v_move rfl) ?_
  refine rd_j (ι := Bool) (γ := Unit) (fun q27 g27 => [(32, isv (q27))]) (fun q27 g27 => []) .nil h 7 rfl (fun q27 g27 h => ?_) (fun J28 h hJ28 => ?_)
  ·
   refine rd_nil ?_
   refine fin_unpinN 0 hn24 rfl ?_
   refine fin_nxt ?_
   refine w_condM h rfl (fun _ h => ?_) (fun _ h => ?_)
   ·
    refine wsr ?_
    refine oV (v_assign rfl) ?_
    refine rnf ?_
    refine w_ret ?_
    refine ret_nxt ?_
    refine ret_block ?_
    refine ret_nxt ?_
    refine rL3 _ ?_
    refine ret_block ?_
    refine ret_nxt ?_
    refine ret_post (.tmp rfl .nil) (.cons .here (.cons .here .nil)) ?_
    obtain rfl := Option.some.inj h
    exact ⟨rfl, rfl⟩
   ·
    refine wkf ?_
    refine w_pinN 0 .here rfl (fun o33 hn34 => ?_)
    refine w_regionD (.v 0 (.v 1 (.v 2 (.v 3 (.v 4 (.v 5 (.v 6 (.v 7 (.v 8 (.v 9 (.t 10 (.t 11 (.t 12 (.v 13 .nil)))))))))))))) moOrd (by kernel_rfl) ?_
    refine rd_v rfl (v_move rfl) ?_
    refine rd_v rfl (v_move rfl) ?_
    refine rd_v rfl (v_nilCheckP rfl) ?_
    refine rd_v rfl (v_fp rfl pt113_0_1 fd113_1) ?_
    refine rd_v rfl (v_lpC (R := vecv v_a_x1 (a_x.l.length)) ty24 rfl (List.Mem.head _) isvV1) ?_
    refine rd_v rfl (v_move rfl) ?_
    refine rd_v rfl (v_move rfl) ?_
    refine cal_inv h fun y35 hy35 h => ?_
    refine rd_v rfl (v_ix (l := a_l) rfl (fun _ _ h => h) rfl sl56 hy35) ?_
    refine rd_v rfl (v_fi rfl GFld.f1 fd69_1 rfl (z := y35.ty)) ?_
    refine rd_v rfl (v_loadI ty3 rfl) ?_
    refine cal_inv h fun y36 hy36 h => ?_
    refine rd_t rfl rfl (t_call (r10_begins_w fuel hy36) hT (.cons rfl (fun _ _ h => vecvE (by first | rfl | simp) _ _ h) (.same rfl .nil)) (.cons .here .nil) (fun R H' hR => ?_))
    obtain ⟨rfl, rfl⟩ := hR
    refine rd_t rfl rfl (t_buildSlice (l := ([y36] : (List (List Tag)))) el194 (.cons rfl (fun _ _ h => h) .nil) rfl rfl ?_)
    refine asr_inv h fun q39 h => ?_
    refine rd_t rfl rfl (t_appC (l := q2.1) (m := ([y36] : (List (List Tag)))) ap194_194 rfl (fun _ _ h => h) rfl appv_isv (.there .here) q39 fun t38 => ?_)
    refine rd_v rfl (v_assign rfl) ?_
    refine rd_nil ?_
    refine fin_unpinN 0 hn34 rfl ?_
    refine fin_block ?_
    refine fin_nxt ?_
    refine w_region ?_
    refine oV (v_move rfl) ?_
    refine ck_inv h fun q40 h => ?_
    refine oV (v_add rfl rfl q40) ?_
    refine oV (v_assign rfl) ?_
    refine rl_nil ?_
    exact hL3 _ (t38) h _ (join_imp 40 rfl rfl (mod_cons (j := 0) rfl (fun _ _ h => h) (mod_cons (j := 7) rfl (fun _ _ h => h) (mod_cons (j := 8) rfl (fun _ _ h => h) mod_nil))) (.cons (.there .here) (.cons .here (.cons .here .nil))))
  ·
   refine rd_condM (j := 25) h rfl (fun g29 h => ?_) (fun g29 h => ?_)
   ·
    refine rd_vt rfl rfl (dj := 25) rfl g29 (v_move rfl) ?_
    refine rd_vt rfl rfl (dj := 25) rfl g29 (v_move rfl) ?_
    refine rd_j (ι := Bool) (γ := Unit) (fun q30 g30 => [(31, isv (q30))]) (fun q30 g30 => []) .nil h 4 rfl (fun q30 g30 h => ?_) (fun J31 h hJ31 => ?_)
    ·
     refine rd_v rfl (v_pick_t rfl g29 rfl) ?_
     exact hJ28 _ () h _ (join_imp 4 rfl rfl (mod_cons (j := 32) rfl (fun _ _ h => h) mod_nil) (.cons .here (.cons .here .nil)))
    ·
     refine rd_condM (j := 27) h rfl (fun g32 h => ?_) (fun g32 h => ?_)
     ·
      refine rd_passV rfl rfl (dj := 27) rfl g32 ?_
      refine rd_passV rfl rfl (dj := 27) rfl g32 ?_
      refine rd_passV rfl rfl (dj := 27) rfl g32 ?_
      refine rd_vt rfl rfl (dj := 25) rfl g29 (v_pick_t rfl g32 rfl) ?_
      exact hJ31 _ () h _ (join_imp 4 rfl rfl (mod_cons (j := 31) rfl (fun _ _ h => h) mod_nil) (.cons .here (.cons .here .nil)))
     ·
      refine rd_vt rfl rfl (dj := 27) rfl g32 (v_move rfl) ?_
      refine rd_vt rfl rfl (dj := 27) rfl g32 (v_ln (l := a_l) rfl (fun _ _ h => h) sl56) ?_
      refine rd_vt rfl rfl (dj := 27) rfl g32 (v_gtr rfl rfl) ?_
      refine rd_vt rfl rfl (dj := 25) rfl g29 (v_pick_f rfl g32 rfl) ?_
      exact hJ31 _ () h _ (join_imp 4 rfl rfl (mod_cons (j := 31) rfl (fun _ _ h => h) mod_nil) (.cons .here (.cons .here .nil)))
   ·
    refine rd_passV rfl rfl (dj := 25) rfl g29 ?_
    refine rd_passV rfl rfl (dj := 25) rfl g29 ?_
    refine rd_passUV rfl rfl (dj := 27) rfl ?_
    refine rd_passUV rfl rfl (dj := 27) rfl ?_
    refine rd_passUV rfl rfl (dj := 27) rfl ?_
    refine rd_passV rfl rfl (dj := 25) rfl g29 ?_
    refine rd_v rfl (v_pick_f rfl g29 rfl) ?_
    exact hJ28 _ () h _ (join_imp 7 rfl rfl (mod_cons (j := 32) rfl (fun _ _ h => h) mod_nil) (.cons .here (.cons .here .nil)))
 ·
  refine w_exit ?_
  refine exi_nxt ?_
  refine eL3 _ _ ?_
  refine exi_block ?_
  refine fin_nxt ?_
  refine wsr ?_
  refine oV (v_move rfl) ?_
  refine cal_inv h fun y41 hy41 h => ?_
  refine oT (t_call (r09_Distinct_w hy41) hT (.cons rfl appv_isv .nil) .nil (fun R H' hR => ?_))
  obtain ⟨rfl, rfl⟩ := hR
  refine oV (v_assign rfl) ?_
  refine rnf ?_
  refine w_ret ?_
  refine ret_post (.tmp rfl .nil) (.cons (.there .here) (.cons (.there .here) .nil)) ?_
  obtain rfl := Option.some.inj h
  exact ⟨rfl, rfl⟩


theorem r10_Loose_w : ∀ {a_t : GTyp} {r : (List Bool)}, r10_Loose a_t = some r → Ctr Tryd.prog 137 [isv (a_t)] [] (fun R H => R = oneOf [isv (r)] ∧ H = []) := by
 intro a_t r h
 unfold r10_Loose at h
 refine spec_intro Tryd.func137 rfl (by decide +kernel) (by rfl) fun w0 S0 hT => ?_
 refine wsr ?_
 refine oT (t_boxIC (y := a_t) rfl (fun _ _ h => h) ?_)
 refine oV (v_assign rfl) ?_
 refine rnf ?_
 refine wsr ?_
 refine oV (v_assign rfl) ?_
 refine rnf ?_
 refine w_seq ?_
 refine wsr ?_
 refine oV (v_assign rfl) ?_
 refine rnf ?_
 refine w_block ?_
 refine w_upd (upd_tok) ?_
 refine w_lp (ι := (List Bool) × Int) (γ := Tok) (fun q1 g1 => [(3, appv g1 (q1.1)), (4, isv (q1.2))]) (fun q1 g1 => [tokE g1]) h (none) (mod_cons (j := 3) rfl nilv_appv (mod_cons (j := 4) rfl (fun _ _ h => h) mod_nil)) (.cons .here .nil) (fun L2 q1 g1 Q28 h hL2 eL2 rL2 => ?_)
 refine w_seq ?_
 refine wsr ?_
 refine oV (v_move rfl) ?_
 refine oV (v_fi rfl GTyp.f4 fd58_4 rfl (z := a_t.fields)) ?_
 refine oV (v_loadI ty56 rfl) ?_
 refine oV (v_ln (l := a_t.fields) rfl (fun _ _ h => h) sl56) ?_
 refine oV (v_lss rfl rfl) ?_
 refine rnf ?_
 refine w_condM h rfl (fun _ h => ?_) (fun _ h => ?_)
 ·
  refine wkf ?_
  refine w_seq ?_
  refine w_block ?_
  refine w_region ?_
  refine oV (v_move rfl) ?_
  refine oV (v_fi rfl GTyp.f4 fd58_4 rfl (z := a_t.fields)) ?_
  refine oV (v_loadI ty56 rfl) ?_
  refine oV (v_move rfl) ?_
  refine cal_inv h fun y15 hy15 h => ?_
  refine oV (v_ix (l := a_t.fields) rfl (fun _ _ h => h) rfl sl56 hy15) ?_
  refine oV (v_fi rfl GFld.f2 fd69_2 rfl (z := y15.optional)) ?_
  refine oV (v_loadI ty4 rfl) ?_
  refine oV (v_move rfl) ?_
  refine rl_j (ι := Bool) (γ := Unit) (fun q16 g16 => [(26, isv (q16))]) (fun q16 g16 => []) .nil h 7 rfl (fun q16 g16 h => ?_) (fun J17 h hJ17 => ?_)
  ·
   refine oV (v_move rfl) ?_
   refine rl_j (ι := Bool) (γ := Unit) (fun q20 g20 => [(32, isv (q20))]) (fun q20 g20 => []) .nil h 5 rfl (fun q20 g20 h => ?_) (fun J21 h hJ21 => ?_)
   ·
    refine oT (t_buildSlice (l := ([q20] : (List Bool))) el189 (.cons rfl (fun _ _ h => h) .nil) rfl rfl ?_)
    refine asr_inv h fun q25 h => ?_
    refine oT (t_appC (l := q1.1) (m := ([q20] : (List Bool))) ap189_189 rfl (fun _ _ h => h) rfl appv_isv .here q25 fun t24 => ?_)
    refine oV (v_assign rfl) ?_
    refine rl_nil ?_
    refine fin_block ?_
    refine fin_nxt ?_
    refine w_region ?_
    refine oV (v_move rfl) ?_
    refine ck_inv h fun q26 h => ?_
    refine oV (v_add rfl rfl q26) ?_
    refine oV (v_assign rfl) ?_
    refine rl_nil ?_
    exact hL2 _ (t24) h _ (join_imp 24 rfl rfl (mod_cons (j := 3) rfl (fun _ _ h => h) (mod_cons (j := 4) rfl (fun _ _ h => h) mod_nil)) (.cons .here .nil))
   ·
    refine rl_condM (j := 27) h rfl (fun g22 h => ?_) (fun g22 h => ?_)
    ·
     refine op_pass rfl (dj := 27) rfl g22 ?_
     refine op_pass rfl (dj := 27) rfl g22 ?_
     refine op_pass rfl (dj := 27) rfl g22 ?_
     refine op_pass rfl (dj := 27) rfl g22 ?_
     refine oV (v_pick_t rfl g22 rfl) ?_
     exact hJ21 _ () h _ (join_imp 5 rfl rfl (mod_cons (j := 32) rfl (fun _ _ h => h) mod_nil) (.cons .here .nil))
    ·
     refine op_take rfl rfl (dj := 27) rfl g22 (OpV.t (v_move rfl) ?_)
     refine op_take rfl rfl (dj := 27) rfl g22 (OpV.t (v_fi rfl GTyp.f5 fd58_5 rfl (z := a_t.root)) ?_)
     refine op_take rfl rfl (dj := 27) rfl g22 (OpV.t (v_loadI ty3 rfl) ?_)
     refine op_take rfl rfl (dj := 27) rfl g22 (OpV.t (v_geq rfl rfl) ?_)
     refine oV (v_pick_f rfl g22 rfl) ?_
     exact hJ21 _ () h _ (join_imp 5 rfl rfl (mod_cons (j := 32) rfl (fun _ _ h => h) mod_nil) (.cons .here .nil))
  ·
   refine rl_condM (j := 19) h rfl (fun g18 h => ?_) (fun g18 h => ?_)
   ·
    refine op_pass rfl (dj := 19) rfl g18 ?_
    refine op_pass rfl (dj := 19) rfl g18 ?_
    refine op_pass rfl (dj := 19) rfl g18 ?_
    refine op_pass rfl (dj := 19) rfl g18 ?_
    refine op_pass rfl (dj := 19) rfl g18 ?_
    refine op_pass rfl (dj := 19) rfl g18 ?_
    refine oV (v_pick_t rfl g18 rfl) ?_
    exact hJ17 _ () h _ (join_imp 7 rfl rfl (mod_cons (j := 26) rfl (fun _ _ h => h) mod_nil) (.cons .here .nil))
   ·
    refine op_take rfl rfl (dj := 19) rfl g18 (OpV.t (v_fi rfl GTyp.f4 fd58_4 rfl (z := a_t.fields)) ?_)
    refine op_take rfl rfl (dj := 19) rfl g18 (OpV.t (v_loadI ty56 rfl) ?_)
    refine op_take rfl rfl (dj := 19) rfl g18 (OpV.t (v_move rfl) ?_)
    refine cal_inv h fun y19 hy19 h => ?_
    refine op_take rfl rfl (dj := 19) rfl g18 (OpV.t (v_ix (l := a_t.fields) rfl (fun _ _ h => h) rfl sl56 hy19) ?_)
    refine op_take rfl rfl (dj := 19) rfl g18 (OpV.t (v_fi rfl GFld.f3 fd69_3 rfl (z := y19.has)) ?_)
    refine op_take rfl rfl (dj := 19) rfl g18 (OpV.t (v_loadI ty4 rfl) ?_)
    refine oV (v_pick_f rfl g18 rfl) ?_
    exact hJ17 _ () h _ (join_imp 7 rfl rfl (mod_cons (j := 26) rfl (fun _ _ h => h) mod_nil) (.cons .here .nil))
 ·
  refine w_exit ?_
  refine exi_nxt ?_
  refine eL2 _ _ ?_
  refine exi_block ?_
  refine fin_nxt ?_
  refine wsr ?_
  refine oV (v_move rfl) ?_
  refine oV (v_assign rfl) ?_
  refine rnf ?_
  refine w_ret ?_
  refine ret_post (.as rfl appv_isv .nil) .nil ?_
  obtain rfl := Option.some.inj h
  exact ⟨rfl, rfl⟩


theorem r10_Last_w : ∀ {a_t : GTyp} {r : Int}, r10_Last a_t = some r → Ctr Tryd.prog 138 [isv (a_t)] [] (fun R H => R = oneOf [isv (r)] ∧ H = []) := by
 intro a_t r h
 unfold r10_Last at h
 refine spec_intro Tryd.func138 rfl (by decide +kernel) (by rfl) fun w0 S0 hT => ?_
 refine wsr ?_
 refine oT (t_boxIC (y := a_t) rfl (fun _ _ h => h) ?_)
 refine oV (v_assign rfl) ?_
 refine rnf ?_
 refine wsr ?_
 refine oV (v_loadI ty58 rfl) ?_
 refine cal_inv h fun y1 hy1 h => ?_
 refine oT (t_call (r10_Loose_w hy1) hT (.same rfl .nil) .nil (fun R H' hR => ?_))
 obtain ⟨rfl, rfl⟩ := hR
 refine oV (v_assign rfl) ?_
 refine rnf ?_
 refine wsr ?_
 refine oV (v_fi rfl GTyp.f5 fd58_5 rfl (z := a_t.root)) ?_
 refine oV (v_loadI ty3 rfl) ?_
 refine oV (v_assign rfl) ?_
 refine rnf ?_
 refine w_seq ?_
 refine w_block ?_
 refine w_lp (ι := Int) (γ := Unit) (fun q2 g2 => [(4, isv (q2))]) (fun q2 g2 => []) h () (mod_cons (j := 4) rfl (fun _ _ h => h) mod_nil) .nil (fun L3 q2 g2 Q16 h hL3 eL3 rL3 => ?_)
 refine w_seq ?_
 refine wsr ?_
 refine oV (v_move rfl) ?_
 refine oV (v_gtr rfl rfl) ?_
 refine oV (v_move rfl) ?_
 refine rl_j (ι := Bool) (γ := Unit) (fun q10 g10 => [(17, isv (q10))]) (fun q10 g10 => []) .nil h 6 rfl (fun q10 g10 h => ?_) (fun J11 h hJ11 => ?_)
 ·
  refine rnf ?_
  refine w_condM h rfl (fun _ h => ?_) (fun _ h => ?_)
  ·
   refine wkf ?_
   refine w_block ?_
   refine w_region ?_
   refine oV (v_move rfl) ?_
   refine ck_inv h fun q15 h => ?_
   refine oV (v_sub rfl rfl q15) ?_
   refine oV (v_assign rfl) ?_
   refine rl_nil ?_
   refine fin_block ?_
   exact hL3 _ () h _ (join_imp 8 rfl rfl (mod_cons (j := 4) rfl (fun _ _ h => h) mod_nil) .nil)
  ·
   refine w_exit ?_
   refine exi_nxt ?_
   refine eL3 _ _ ?_
   refine exi_block ?_
   refine fin_nxt ?_
   refine wsr ?_
   refine oV (v_move rfl) ?_
   refine oV (v_assign rfl) ?_
   refine rnf ?_
   refine w_ret ?_
   refine ret_post (.tmp rfl .nil) .nil ?_
   obtain rfl := Option.some.inj h
   exact ⟨rfl, rfl⟩
 ·
  refine rl_condM (j := 11) h rfl (fun g12 h => ?_) (fun g12 h => ?_)
  ·
   refine op_take rfl rfl (dj := 11) rfl g12 (OpV.t (v_move rfl) ?_)
   refine op_take rfl rfl (dj := 11) rfl g12 (OpV.t (v_move rfl) ?_)
   refine ck_inv h fun q13 h => ?_
   refine op_take rfl rfl (dj := 11) rfl g12 (OpV.t (v_sub rfl rfl q13) ?_)
   refine cal_inv h fun y14 hy14 h => ?_
   refine op_take rfl rfl (dj := 11) rfl g12 (OpV.t (v_ix (l := y1) rfl (fun _ _ h => h) rfl sl189 hy14) ?_)
   refine op_take rfl rfl (dj := 11) rfl g12 (OpV.t (v_loadI ty4 rfl) ?_)
   refine oV (v_pick_t rfl g12 rfl) ?_
   exact hJ11 _ () h _ (join_imp 6 rfl rfl (mod_cons (j := 17) rfl (fun _ _ h => h) mod_nil) .nil)
  ·
   refine op_pass rfl (dj := 11) rfl g12 ?_
   refine op_pass rfl (dj := 11) rfl g12 ?_
   refine op_pass rfl (dj := 11) rfl g12 ?_
   refine op_pass rfl (dj := 11) rfl g12 ?_
   refine op_pass rfl (dj := 11) rfl g12 ?_
   refine oV (v_pick_f rfl g12 rfl) ?_
   exact hJ11 _ () h _ (join_imp 6 rfl rfl (mod_cons (j := 17) rfl (fun _ _ h => h) mod_nil) .nil)


theorem r10_maker_apart_w : ∀ {a_x : GMk} {a_t : GTyp} {b_a_x : Nat} {v_a_x1 : Vt} {r : Bool × GMk}, r10_maker_apart a_x a_t = some r → Ctr Tryd.prog 126 [ptrv b_a_x (Fld.id (GMod × Vh × Int)), isv (a_t)] [boxE b_a_x ((a_x.m, (Vh.mk v_a_x1 a_x.l.length), a_x.e) : (GMod × Vh × Int)), vecE v_a_x1 (a_x.l : List GTyp)] (fun R H => R = oneOf [isv (r.1)] ∧ H = [boxE b_a_x ((r.2.m, (Vh.mk v_a_x1 r.2.l.length), r.2.e)), vecE v_a_x1 (r.2.l)]) := by
 intro a_x a_t b_a_x v_a_x1 r h
 unfold r10_maker_apart at h
 refine spec_intro Tryd.func126 rfl (by decide +kernel) (by rfl) fun w0 S0 hT => ?_
 refine wsr ?_
 refine oT (t_boxIC (y := a_t) rfl (fun _ _ h => h) ?_)
 refine oV (v_assign rfl) ?_
 refine rnf ?_
 refine w_seq ?_
 refine wsr ?_
 refine oV (v_fi rfl GTyp.f0 fd58_0 rfl (z := a_t.kind)) ?_
 refine oV (v_loadI ty3 rfl) ?_
 refine oV (v_neq rfl rfl) ?_
 refine rnf ?_
 refine w_condM h rfl (fun _ h => ?_) (fun _ h => ?_)
 ·
  refine wsr ?_
  refine oV (v_move rfl) ?_
  refine oV (v_fi rfl GTyp.f4 fd58_4 rfl (z := a_t.fields)) ?_
  refine oV (v_loadI ty56 rfl) ?_
  refine oV (v_fi rfl GTyp.f6 fd58_6 rfl (z := a_t.more)) ?_
  refine oV (v_loadI ty4 rfl) ?_
  refine cal_inv h fun y2 hy2 h => ?_
  refine oT (t_call (r10_maker_told_w hy2) hT (.same rfl (.same rfl (.same rfl .nil))) (.cons .here (.cons .here .nil)) (fun R H' hR => ?_))
  obtain ⟨rfl, rfl⟩ := hR
  refine oV (v_assign rfl) ?_
  refine rnf ?_
  refine w_ret ?_
  refine ret_nxt ?_
  refine ret_post (.tmp rfl .nil) (.cons .here (.cons .here .nil)) ?_
  obtain rfl := Option.some.inj h
  exact ⟨rfl, rfl⟩
 ·
  refine wkf ?_
  refine wsr ?_
  refine oV (v_loadI ty58 rfl) ?_
  refine cal_inv h fun y3 hy3 h => ?_
  refine oT (t_call (r10_Loose_w hy3) hT (.same rfl .nil) .nil (fun R H' hR => ?_))
  obtain ⟨rfl, rfl⟩ := hR
  refine oV (v_assign rfl) ?_
  refine rnf ?_
  refine w_seq ?_
  refine wsr ?_
  refine oV (v_assign rfl) ?_
  refine rnf ?_
  refine w_block ?_
  refine w_lp (ι := Int × GMk) (γ := Unit) (fun q4 g4 => [(6, isv (q4.1))]) (fun q4 g4 => [boxE b_a_x ((q4.2.m, (Vh.mk v_a_x1 q4.2.l.length), q4.2.e) : (GMod × Vh × Int)), vecE v_a_x1 (q4.2.l : List GTyp)]) h () (mod_cons (j := 6) rfl (fun _ _ h => h) mod_nil) (.cons .here (.cons .here .nil)) (fun L5 q4 g4 Q66 h hL5 eL5 rL5 => ?_)
  refine w_seq ?_
  refine wsr ?_
  refine oV (v_move rfl) ?_
  refine oV (v_fi rfl GTyp.f4 fd58_4 rfl (z := a_t.fields)) ?_
  refine oV (v_loadI ty56 rfl) ?_
  refine oV (v_ln (l := a_t.fields) rfl (fun _ _ h => h) sl56) ?_
  refine oV (v_lss rfl rfl) ?_
  refine rnf ?_
  refine w_condM h rfl (fun _ h => ?_) (fun _ h => ?_)
  ·
   refine wkf ?_
   refine w_seq ?_
   refine w_J (ι := GMk) (γ := Unit) (fun q36 g36 => []) (fun q36 g36 => [boxE b_a_x ((q36.m, (Vh.mk v_a_x1 q36.l.length), q36.e) : (GMod × Vh × Int)), vecE v_a_x1 (q36.l : List GTyp)]) (.cons .here (.cons .here .nil)) h (fun q36 g36 h => ?_) (fun J37 h hJ37 => ?_)
   ·
    refine w_region ?_
    refine oV (v_move rfl) ?_
    refine ck_inv h fun q59 h => ?_
    refine oV (v_add rfl rfl q59) ?_
    refine oV (v_assign rfl) ?_
    refine rl_nil ?_
    exact hL5 _ () h _ (join_imp 9 rfl rfl (mod_cons (j := 6) rfl (fun _ _ h => h) mod_nil) (.cons .here (.cons .here .nil)))
   ·
    refine w_block ?_
    refine w_seq ?_
    refine wsr ?_
    refine oV (v_move rfl) ?_
    refine oV (v_move rfl) ?_
    refine cal_inv h fun y38 hy38 h => ?_
    refine oV (v_ix (l := y3) rfl (fun _ _ h => h) rfl sl189 hy38) ?_
    refine oV (v_loadI ty4 rfl) ?_
    refine oV (v_not rfl) ?_
    refine rnf ?_
    refine w_condM h rfl (fun _ h => ?_) (fun _ h => ?_)
    ·
     refine w_exit ?_
     refine exi_nxt ?_
     refine exi_block ?_
     exact hJ37 _ () h _ (join_imp 5 rfl rfl mod_nil (.cons .here (.cons .here .nil)))
    ·
     refine wkf ?_
     refine wsr ?_
     refine oV (v_move rfl) ?_
     refine ck_inv h fun q39 h => ?_
     refine oV (v_add rfl rfl q39) ?_
     refine oV (v_assign rfl) ?_
     refine rnf ?_
     refine w_seq ?_
     refine w_block ?_
     refine w_lp (ι := Int) (γ := Unit) (fun q40 g40 => [(7, isv (q40))]) (fun q40 g40 => []) h () (mod_cons (j := 7) rfl (fun _ _ h => h) mod_nil) .nil (fun L41 q40 g40 Q58 h hL41 eL41 rL41 => ?_)
     refine w_seq ?_
     refine wsr ?_
     refine oV (v_move rfl) ?_
     refine oV (v_fi rfl GTyp.f4 fd58_4 rfl (z := a_t.fields)) ?_
     refine oV (v_loadI ty56 rfl) ?_
     refine oV (v_ln (l := a_t.fields) rfl (fun _ _ h => h) sl56) ?_
     refine oV (v_lss rfl rfl) ?_
     refine oV (v_move rfl) ?_
     refine rl_j (ι := Bool) (γ := Unit) (fun q50 g50 => [(43, isv (q50))]) (fun q50 g50 => []) .nil h 5 rfl (fun q50 g50 h => ?_) (fun J51 h hJ51 => ?_)
     ·
      refine rnf ?_
      refine w_condM h rfl (fun _ h => ?_) (fun _ h => ?_)
      ·
       refine wkf ?_
       refine w_block ?_
       refine w_region ?_
       refine oV (v_move rfl) ?_
       refine ck_inv h fun q54 h => ?_
       refine oV (v_add rfl rfl q54) ?_
       refine oV (v_assign rfl) ?_
       refine rl_nil ?_
       refine fin_block ?_
       exact hL41 _ () h _ (join_imp 11 rfl rfl (mod_cons (j := 7) rfl (fun _ _ h => h) mod_nil) (.cons .here (.cons .here .nil)))
      ·
       refine w_exit ?_
       refine exi_nxt ?_
       refine eL41 _ _ ?_
       refine exi_block ?_
       refine fin_nxt ?_
       refine wsr ?_
       refine oV (v_move rfl) ?_
       refine oV (v_fi rfl GTyp.f4 fd58_4 rfl (z := a_t.fields)) ?_
       refine oV (v_loadI ty56 rfl) ?_
       refine oV (v_move rfl) ?_
       refine oV (v_move rfl) ?_
       refine ck_inv h fun q55 h => ?_
       refine oV (v_add rfl rfl q55) ?_
       refine oV (v_fi rfl GTyp.f4 fd58_4 rfl (z := a_t.fields)) ?_
       refine oV (v_loadI ty56 rfl) ?_
       refine oV (v_ln (l := a_t.fields) rfl (fun _ _ h => h) sl56) ?_
       refine oV (v_min rfl rfl) ?_
       refine asd_inv h fun q56 h => ?_
       refine oV (v_sl (l := a_t.fields) rfl (fun _ _ h => h) sl56 (.inr ⟨_, rfl, rfl⟩) (.inr ⟨_, rfl, rfl⟩) q56.1 q56.2.1 q56.2.2) ?_
       refine cal_inv h fun y57 hy57 h => ?_
       refine oT (t_call (r10_maker_told_w hy57) hT (.same rfl (.same rfl (.same rfl .nil))) (.cons .here (.cons .here .nil)) (fun R H' hR => ?_))
       obtain ⟨rfl, rfl⟩ := hR
       refine oV (v_not rfl) ?_
       refine rnf ?_
       refine w_condM h rfl (fun _ h => ?_) (fun _ h => ?_)
       ·
        refine wsr ?_
        refine oV (v_assign rfl) ?_
        refine rnf ?_
        refine w_ret ?_
        refine ret_block ?_
        refine ret_nxt ?_
        refine rL5 _ ?_
        refine ret_block ?_
        refine ret_nxt ?_
        refine ret_post (.tmp rfl .nil) (.cons .here (.cons .here .nil)) ?_
        obtain rfl := Option.some.inj h
        exact ⟨rfl, rfl⟩
       ·
        refine w_skip ?_
        refine fin_block ?_
        exact hJ37 _ () h _ (join_imp 29 rfl rfl mod_nil (.cons .here (.cons .here .nil)))
     ·
      refine rl_condM (j := 38) h rfl (fun g52 h => ?_) (fun g52 h => ?_)
      ·
       refine op_take rfl rfl (dj := 38) rfl g52 (OpV.t (v_move rfl) ?_)
       refine op_take rfl rfl (dj := 38) rfl g52 (OpV.t (v_move rfl) ?_)
       refine cal_inv h fun y53 hy53 h => ?_
       refine op_take rfl rfl (dj := 38) rfl g52 (OpV.t (v_ix (l := y3) rfl (fun _ _ h => h) rfl sl189 hy53) ?_)
       refine op_take rfl rfl (dj := 38) rfl g52 (OpV.t (v_loadI ty4 rfl) ?_)
       refine oV (v_pick_t rfl g52 rfl) ?_
       exact hJ51 _ () h _ (join_imp 5 rfl rfl (mod_cons (j := 43) rfl (fun _ _ h => h) mod_nil) (.cons .here (.cons .here .nil)))
      ·
       refine op_pass rfl (dj := 38) rfl g52 ?_
       refine op_pass rfl (dj := 38) rfl g52 ?_
       refine op_pass rfl (dj := 38) rfl g52 ?_
       refine op_pass rfl (dj := 38) rfl g52 ?_
       refine oV (v_pick_f rfl g52 rfl) ?_
       exact hJ51 _ () h _ (join_imp 5 rfl rfl (mod_cons (j := 43) rfl (fun _ _ h => h) mod_nil) (.cons .here (.cons .here .nil)))
  ·
   refine w_exit ?_
   refine exi_nxt ?_
   refine eL5 _ _ ?_
   refine exi_block ?_
   refine fin_nxt ?_
   refine w_seq ?_
   refine w_regionD (.v 0 (.v 1 (.v 2 (.v 3 (.v 4 (.v 5 (.v 6 (.v 7 (.t 8 (.v 9 (.t 10 (.v 11 (.v 12 .nil))))))))))))) moOrd (by kernel_rfl) ?_
   refine rd_v rfl (v_fi rfl GTyp.f6 fd58_6 rfl (z := a_t.more)) ?_
   refine rd_v rfl (v_loadI ty4 rfl) ?_
   refine rd_v rfl (v_not rfl) ?_
   refine rd_v rfl (v_move rfl) ?_
   refine rd_j (ι := Bool × GMk) (γ := Unit) (fun q60 g60 => [(70, isv (q60.1))]) (fun q60 g60 => [boxE b_a_x ((q60.2.m, (Vh.mk v_a_x1 q60.2.l.length), q60.2.e) : (GMod × Vh × Int)), vecE v_a_x1 (q60.2.l : List GTyp)]) (.cons .here (.cons .here .nil)) h 8 rfl (fun q60 g60 h => ?_) (fun J61 h hJ61 => ?_)
   ·
    refine rd_v rfl (v_assign rfl) ?_
    refine rd_nil ?_
    refine fin_nxt ?_
    refine w_ret ?_
    refine ret_post (.tmp rfl .nil) (.cons .here (.cons .here .nil)) ?_
    obtain rfl := Option.some.inj h
    exact ⟨rfl, rfl⟩
   ·
    refine rd_condM (j := 62) h rfl (fun g62 h => ?_) (fun g62 h => ?_)
    ·
     refine rd_passV rfl rfl (dj := 62) rfl g62 ?_
     refine rd_passV rfl rfl (dj := 62) rfl g62 ?_
     refine rd_passV rfl rfl (dj := 62) rfl g62 ?_
     refine rd_passV rfl rfl (dj := 62) rfl g62 ?_
     refine rd_passT rfl rfl (dj := 62) rfl g62 ?_
     refine rd_passV rfl rfl (dj := 62) rfl g62 ?_
     refine rd_passT rfl rfl (dj := 62) rfl g62 ?_
     refine rd_v rfl (v_pick_t rfl g62 rfl) ?_
     exact hJ61 _ () h _ (join_imp 8 rfl rfl (mod_cons (j := 70) rfl (fun _ _ h => h) mod_nil) (.cons .here (.cons .here .nil)))
    ·
     refine rd_vt rfl rfl (dj := 62) rfl g62 (v_move rfl) ?_
     refine rd_vt rfl rfl (dj := 62) rfl g62 (v_fi rfl GTyp.f4 fd58_4 rfl (z := a_t.fields)) ?_
     refine rd_vt rfl rfl (dj := 62) rfl g62 (v_loadI ty56 rfl) ?_
     refine rd_vt rfl rfl (dj := 62) rfl g62 (v_loadI ty58 rfl) ?_
     refine cal_inv h fun y63 hy63 h => ?_
     refine rd_tt rfl rfl rfl (dj := 62) rfl g62 (t_call (r10_Last_w hy63) hT (.same rfl .nil) .nil (fun R H' hR => ?_))
     obtain ⟨rfl, rfl⟩ := hR
     refine asd_inv h fun q64 h => ?_
     refine rd_vt rfl rfl (dj := 62) rfl g62 (v_sl (l := a_t.fields) rfl (fun _ _ h => h) sl56 (.inr ⟨_, rfl, rfl⟩) (.inl ⟨rfl, rfl⟩) q64.1 q64.2.1 q64.2.2) ?_
     refine cal_inv h fun y65 hy65 h => ?_
     refine rd_tt rfl rfl rfl (dj := 62) rfl g62 (t_call (r10_maker_told_w hy65) hT (.same rfl (.same rfl (.same rfl .nil))) (.cons .here (.cons .here .nil)) (fun R H' hR => ?_))
     obtain ⟨rfl, rfl⟩ := hR
     refine rd_v rfl (v_pick_f rfl g62 rfl) ?_
     exact hJ61 _ () h _ (join_imp 8 rfl rfl (mod_cons (j := 70) rfl (fun _ _ h => h) mod_nil) (.cons .here (.cons .here .nil)))

end Go.Proofs.YtajbipkppngccaaDoor

