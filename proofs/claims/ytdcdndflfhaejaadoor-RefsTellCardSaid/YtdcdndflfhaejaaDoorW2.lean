/- Walks, printed by mill.py. -/
import Derived.Test.YtdcdndflfhaejaaDoorW1
namespace Go.Proofs.YtdcdndflfhaejaaDoor
open Go.Sy
set_option maxRecDepth 4000
theorem r05_parser_items_w : ∀ {a_x : GPar} {a_n_ : GNode} {b_a_x : Nat} {t_a_x1 : Tok} {t_a_x2 : Tok} {v_a_x3 : Vt} {b_a_n_ : Nat} {t_a_n_4 : Tok} {t_a_n_5 : Tok} {r : GPar × GNode}, r05_parser_items a_x a_n_ = some r → Ctr Tryd.prog 63 [ptrv b_a_x (Fld.id ((List GTok) × Int × (Str × Int × (TList Str) × (TList Int) × Vh) × Int × Int)), ptrv b_a_n_ (Fld.id (Int × Str × GMark × GCon × (TList GItem) × (TList GFld) × Int × Bool × Int))] [boxE b_a_x ((a_x.l, a_x.at_, (a_x.m.name, a_x.m.tagging, (TList.mk t_a_x1 a_x.m.names), (TList.mk t_a_x2 a_x.m.types), (Vh.mk v_a_x3 a_x.m.nodes.length)), a_x.e, a_x.p) : ((List GTok) × Int × (Str × Int × (TList Str) × (TList Int) × Vh) × Int × Int)), tokE t_a_x1, tokE t_a_x2, vecE v_a_x3 (a_x.m.nodes : List GNode), boxE b_a_n_ ((a_n_.kind, a_n_.name, a_n_.mark, a_n_.con, (TList.mk t_a_n_4 a_n_.items), (TList.mk t_a_n_5 a_n_.fields), a_n_.root, a_n_.more, a_n_.of) : (Int × Str × GMark × GCon × (TList GItem) × (TList GFld) × Int × Bool × Int)), tokE t_a_n_4, tokE t_a_n_5] (fun R H => ∃ u1 : Tok, ∃ u2 : Tok, ∃ u3 : Vt, ∃ u4 : Tok, ∃ u5 : Tok, R = oneOf [] ∧ H = [boxE b_a_x ((r.1.l, r.1.at_, (r.1.m.name, r.1.m.tagging, (TList.mk u1 r.1.m.names), (TList.mk u2 r.1.m.types), (Vh.mk u3 r.1.m.nodes.length)), r.1.e, r.1.p)), tokE u1, tokE u2, vecE u3 (r.1.m.nodes), boxE b_a_n_ ((r.2.kind, r.2.name, r.2.mark, r.2.con, (TList.mk u4 r.2.items), (TList.mk u5 r.2.fields), r.2.root, r.2.more, r.2.of)), tokE u4, tokE u5]) := by
  intro a_x a_n_ b_a_x t_a_x1 t_a_x2 v_a_x3 b_a_n_ t_a_n_4 t_a_n_5 r h
  unfold r05_parser_items at h
  refine spec_intro Tryd.func63 rfl (by decide +kernel) (by rfl) fun w0 S0 hT => ?_
  refine w_seq ?_
  refine w_J (ι := GPar × GNode) (γ := Tok × Tok × Vt × Tok × Tok) (fun q6 g6 => []) (fun q6 g6 => [boxE b_a_x ((q6.1.l, q6.1.at_, (q6.1.m.name, q6.1.m.tagging, (TList.mk g6.1 q6.1.m.names), (TList.mk g6.2.1 q6.1.m.types), (Vh.mk g6.2.2.1 q6.1.m.nodes.length)), q6.1.e, q6.1.p) : ((List GTok) × Int × (Str × Int × (TList Str) × (TList Int) × Vh) × Int × Int)), tokE g6.1, tokE g6.2.1, vecE g6.2.2.1 (q6.1.m.nodes : List GNode), boxE b_a_n_ ((q6.2.kind, q6.2.name, q6.2.mark, q6.2.con, (TList.mk g6.2.2.2.1 q6.2.items), (TList.mk g6.2.2.2.2 q6.2.fields), q6.2.root, q6.2.more, q6.2.of) : (Int × Str × GMark × GCon × (TList GItem) × (TList GFld) × Int × Bool × Int)), tokE g6.2.2.2.1, tokE g6.2.2.2.2]) (.cons .here (.cons (.there (.there (.there .here))) (.cons .here (.cons .here (.cons .here (.cons .here (.cons .here .nil))))))) h (fun q6 g6 h => ?_) (fun J7 h hJ7 => ?_)
  · skip
    refine w_seq ?_
    refine w_region ?_
    refine op_cons rfl (OpV.t (v_move rfl) ?_)
    refine op_cons rfl (OpV.t (v_nilCheck rfl) ?_)
    refine op_cons rfl (OpV.t (v_fa rfl pt83_0_7 fd83_7) ?_)
    refine op_cons rfl (t_loadC (R := isv (q6.2.more)) ty4 rfl (.there (.there (.there (.there .here)))) (fun _ _ h => h) ?_)
    refine op_cons rfl (OpV.t (v_not rfl) ?_)
    refine rl_nil ?_
    refine fin_nxt ?_
    refine w_condM h rfl (fun _ h => ?_) (fun _ h => ?_)
    · skip
      refine w_region ?_
      refine op_cons rfl (OpV.t (v_move rfl) ?_)
      refine op_cons rfl (OpV.t (v_move rfl) ?_)
      refine op_cons rfl (OpV.t (v_nilCheck rfl) ?_)
      refine op_cons rfl (OpV.t (v_fa rfl pt83_0_4 fd83_4) ?_)
      refine op_cons rfl (t_loadC (R := appv g6.2.2.2.1 (q6.2.items)) ty80 rfl (.there (.there (.there (.there .here)))) isvT1 ?_)
      refine op_cons rfl (OpV.t (v_ln (l := q6.2.items) rfl appv_isv sl80) ?_)
      refine op_cons rfl (OpV.t (v_nilCheck rfl) ?_)
      refine op_cons rfl (OpV.t (v_fa rfl pt83_0_6 fd83_6) ?_)
      refine op_cons rfl (t_storeC (y' := ((q6.2.kind, q6.2.name, q6.2.mark, q6.2.con, (TList.mk g6.2.2.2.1 q6.2.items), (TList.mk g6.2.2.2.2 q6.2.fields), (q6.2.items.length : Int), q6.2.more, q6.2.of) : (Int × Str × GMark × GCon × (TList GItem) × (TList GFld) × Int × Bool × Int))) ty3 rfl rfl (fun _ _ h => h) (.there (.there (.there (.there .here)))) rfl ?_)
      refine rl_nil ?_
      refine fin_post .nil (.cons (.there .here) (.cons (.there .here) (.cons (.there .here) (.cons (.there .here) (.cons .here (.cons .here (.cons .here .nil))))))) ?_
      obtain rfl := Option.some.inj h
      exact ⟨g6.1, g6.2.1, g6.2.2.1, g6.2.2.2.1, g6.2.2.2.2, rfl, rfl⟩
    · skip
      refine w_skip ?_
      refine fin_post .nil (.cons .here (.cons .here (.cons .here (.cons .here (.cons .here (.cons .here (.cons .here .nil))))))) ?_
      obtain rfl := Option.some.inj h
      exact ⟨g6.1, g6.2.1, g6.2.2.1, g6.2.2.2.1, g6.2.2.2.2, rfl, rfl⟩
  · skip
    refine w_block ?_
    refine w_lp (ι := GPar × GNode) (γ := Tok × Tok × Vt × Tok × Tok) (fun q8 g8 => []) (fun q8 g8 => [boxE b_a_x ((q8.1.l, q8.1.at_, (q8.1.m.name, q8.1.m.tagging, (TList.mk g8.1 q8.1.m.names), (TList.mk g8.2.1 q8.1.m.types), (Vh.mk g8.2.2.1 q8.1.m.nodes.length)), q8.1.e, q8.1.p) : ((List GTok) × Int × (Str × Int × (TList Str) × (TList Int) × Vh) × Int × Int)), tokE g8.1, tokE g8.2.1, vecE g8.2.2.1 (q8.1.m.nodes : List GNode), boxE b_a_n_ ((q8.2.kind, q8.2.name, q8.2.mark, q8.2.con, (TList.mk g8.2.2.2.1 q8.2.items), (TList.mk g8.2.2.2.2 q8.2.fields), q8.2.root, q8.2.more, q8.2.of) : (Int × Str × GMark × GCon × (TList GItem) × (TList GFld) × Int × Bool × Int)), tokE g8.2.2.2.1, tokE g8.2.2.2.2]) h (t_a_x1, t_a_x2, v_a_x3, t_a_n_4, t_a_n_5) mod_nil (.cons .here (.cons .here (.cons .here (.cons .here (.cons .here (.cons .here (.cons .here .nil))))))) (fun L9 q8 g8 Q94 h hL9 eL9 rL9 => ?_)
    refine w_seq ?_
    refine w_seq ?_
    refine w_region ?_
    refine op_cons rfl (OpV.t (v_move rfl) ?_)
    refine op_cons rfl (OpV.t (v_nilCheck rfl) ?_)
    refine op_cons rfl (OpV.t (v_fa rfl pt49_0_3 fd49_3) ?_)
    refine op_cons rfl (t_loadC (R := isv (q8.1.e)) ty27 rfl .here (fun _ _ h => h) ?_)
    refine op_cons rfl (OpV.t (v_eql rfl rfl) ?_)
    refine rl_nil ?_
    refine fin_nxt ?_
    refine w_condM h rfl (fun _ h => ?_) (fun _ h => ?_)
    · skip
      refine w_skip ?_
      refine fin_nxt ?_
      refine w_block ?_
      refine w_seq ?_
      refine w_seq ?_
      refine w_region ?_
      refine op_cons rfl (OpV.t (v_move rfl) ?_)
      refine op_cons rfl (OpV.t (v_nilCheck rfl) ?_)
      refine op_cons rfl (OpV.t (v_fa rfl pt83_0_4 fd83_4) ?_)
      refine op_cons rfl (t_loadC (R := appv g8.2.2.2.1 (q8.2.items)) ty80 rfl (.there (.there (.there (.there .here)))) isvT1 ?_)
      refine op_cons rfl (OpV.t (v_ln (l := q8.2.items) rfl appv_isv sl80) ?_)
      refine op_cons rfl (OpV.t (v_gtr rfl rfl) ?_)
      refine op_cons rfl (OpV.t (v_move rfl) ?_)
      refine rl_j (ι := Bool) (γ := Unit) (fun q52 g52 => [(22, isv (q52))]) (fun q52 g52 => []) .nil h 6 rfl (fun q52 g52 h => ?_) (fun J53 h hJ53 => ?_)
      · skip
        refine op_cons rfl (OpV.t (v_move rfl) ?_)
        refine rl_j (ι := Bool × GPar) (γ := Tok × Tok × Vt) (fun q55 g55 => [(26, isv (q55.1))]) (fun q55 g55 => [boxE b_a_x ((q55.2.l, q55.2.at_, (q55.2.m.name, q55.2.m.tagging, (TList.mk g55.1 q55.2.m.names), (TList.mk g55.2.1 q55.2.m.types), (Vh.mk g55.2.2 q55.2.m.nodes.length)), q55.2.e, q55.2.p) : ((List GTok) × Int × (Str × Int × (TList Str) × (TList Int) × Vh) × Int × Int)), tokE g55.1, tokE g55.2.1, vecE g55.2.2 (q55.2.m.nodes : List GNode)]) (.cons .here (.cons .here (.cons .here (.cons .here .nil)))) h 3 rfl (fun q55 g55 h => ?_) (fun J56 h hJ56 => ?_)
        · skip
          refine rl_nil ?_
          refine fin_nxt ?_
          refine w_J (ι := GPar × GNode) (γ := Tok × Tok × Vt × Tok × Tok) (fun q62 g62 => []) (fun q62 g62 => [boxE b_a_x ((q62.1.l, q62.1.at_, (q62.1.m.name, q62.1.m.tagging, (TList.mk g62.1 q62.1.m.names), (TList.mk g62.2.1 q62.1.m.types), (Vh.mk g62.2.2.1 q62.1.m.nodes.length)), q62.1.e, q62.1.p) : ((List GTok) × Int × (Str × Int × (TList Str) × (TList Int) × Vh) × Int × Int)), tokE g62.1, tokE g62.2.1, vecE g62.2.2.1 (q62.1.m.nodes : List GNode), boxE b_a_n_ ((q62.2.kind, q62.2.name, q62.2.mark, q62.2.con, (TList.mk g62.2.2.2.1 q62.2.items), (TList.mk g62.2.2.2.2 q62.2.fields), q62.2.root, q62.2.more, q62.2.of) : (Int × Str × GMark × GCon × (TList GItem) × (TList GFld) × Int × Bool × Int)), tokE g62.2.2.2.1, tokE g62.2.2.2.2]) (.cons .here (.cons (.there (.there (.there .here))) (.cons .here (.cons .here (.cons .here (.cons .here (.cons .here .nil))))))) h (fun q62 g62 h => ?_) (fun J63 h hJ63 => ?_)
          · skip
            refine w_seq ?_
            refine w_region ?_
            refine op_cons rfl (OpV.t (v_move rfl) ?_)
            refine cal_inv h fun y90 hy90 h => ?_
            refine op_cons rfl (t_call (r05_parser_is_w hy90) hT (.same rfl (.same rfl .nil)) (.cons .here (.cons .here (.cons .here (.cons .here .nil)))) (fun R H' hR => ?_))
            obtain ⟨t91, t92, v93, rfl, rfl⟩ := hR
            refine op_cons rfl (OpV.t (v_not rfl) ?_)
            refine rl_nil ?_
            refine fin_nxt ?_
            refine w_condM h rfl (fun _ h => ?_) (fun _ h => ?_)
            · skip
              refine w_exit ?_
              refine exi_pass rfl ?_
              refine eL9 _ _ ?_
              refine exi_block ?_
              exact hJ7 _ (t91, t92, v93, g62.2.2.2.1, g62.2.2.2.2) h _ (join_imp 18 rfl rfl mod_nil (.cons .here (.cons .here (.cons .here (.cons .here (.cons .here (.cons .here (.cons .here .nil))))))))
            · skip
              refine w_skip ?_
              refine fin_block ?_
              exact hL9 _ (t91, t92, v93, g62.2.2.2.1, g62.2.2.2.2) h _ (join_imp 18 rfl rfl mod_nil (.cons .here (.cons .here (.cons .here (.cons .here (.cons .here (.cons .here (.cons .here .nil))))))))
          · skip
            refine w_condM h rfl (fun _ h => ?_) (fun _ h => ?_)
            · skip
              refine w_region ?_
              refine op_cons rfl (OpV.t (v_move rfl) ?_)
              refine op_cons rfl (OpV.t (v_move rfl) ?_)
              refine op_cons rfl (OpV.t (v_move rfl) ?_)
              refine op_cons rfl (OpV.t (v_nilCheck rfl) ?_)
              refine op_cons rfl (OpV.t (v_fa rfl pt83_0_4 fd83_4) ?_)
              refine op_cons rfl (t_loadC (R := appv g8.2.2.2.1 (q8.2.items)) ty80 rfl (.there (.there (.there (.there .here)))) isvT1 ?_)
              refine op_cons rfl (OpV.t (v_ln (l := q8.2.items) rfl appv_isv sl80) ?_)
              refine op_cons rfl (OpV.t (v_nilCheck rfl) ?_)
              refine op_cons rfl (OpV.t (v_fa rfl pt83_0_7 fd83_7) ?_)
              refine op_cons rfl (t_storeC (y' := ((q8.2.kind, q8.2.name, q8.2.mark, q8.2.con, (TList.mk g8.2.2.2.1 q8.2.items), (TList.mk g8.2.2.2.2 q8.2.fields), q8.2.root, true, q8.2.of) : (Int × Str × GMark × GCon × (TList GItem) × (TList GFld) × Int × Bool × Int))) ty4 rfl rfl (fun _ _ h => h) (.there (.there (.there (.there .here)))) rfl ?_)
              refine op_cons rfl (OpV.t (v_nilCheck rfl) ?_)
              refine op_cons rfl (OpV.t (v_fa rfl pt83_0_6 fd83_6) ?_)
              refine op_cons rfl (t_storeC (y' := ((q8.2.kind, q8.2.name, q8.2.mark, q8.2.con, (TList.mk g8.2.2.2.1 q8.2.items), (TList.mk g8.2.2.2.2 q8.2.fields), (q8.2.items.length : Int), true, q8.2.of) : (Int × Str × GMark × GCon × (TList GItem) × (TList GFld) × Int × Bool × Int))) ty3 rfl rfl (fun _ _ h => h) .here rfl ?_)
              refine rl_nil ?_
              exact hJ63 _ (g55.1, g55.2.1, g55.2.2, g8.2.2.2.1, g8.2.2.2.2) h _ (join_imp 11 rfl rfl mod_nil (.cons (.there .here) (.cons (.there .here) (.cons (.there .here) (.cons (.there .here) (.cons .here (.cons .here (.cons .here .nil))))))))
            · skip
              refine w_seq ?_
              refine w_region ?_
              refine op_cons rfl (OpV.t (v_move rfl) ?_)
              refine cal_inv h fun y64 hy64 h => ?_
              refine op_cons rfl (t_call (r05_parser_kind_w hy64) hT (.same rfl (.same rfl .nil)) (.cons .here (.cons .here (.cons .here (.cons .here .nil)))) (fun R H' hR => ?_))
              obtain ⟨t65, t66, v67, rfl, rfl⟩ := hR
              refine op_cons rfl (OpV.t (v_build (z := (GItem.mk y64.1 (0 : Int) false)) rfl bu111 ze111 (.cons GItem.f0 fd111_0 rfl (fun _ _ h => h) .nil)) ?_)
              refine op_cons rfl (t_alloc _ ze111 fun b68 => ?_)
              refine op_cons rfl (t_storeC (y' := ((GItem.mk y64.1 (0 : Int) false) : GItem)) ty111 rfl rfl (fun _ _ h => h) .here rfl ?_)
              refine rl_nil ?_
              refine fin_nxt ?_
              refine w_seq ?_
              refine w_seq ?_
              refine w_region ?_
              refine op_cons rfl (OpV.t (v_move rfl) ?_)
              refine cal_inv h fun y69 hy69 h => ?_
              refine op_cons rfl (t_call (r05_parser_is_w hy69) hT (.same rfl (.same rfl .nil)) (.cons (.there .here) (.cons (.there .here) (.cons (.there .here) (.cons (.there .here) .nil)))) (fun R H' hR => ?_))
              obtain ⟨t70, t71, v72, rfl, rfl⟩ := hR
              refine rl_nil ?_
              refine fin_nxt ?_
              refine w_J (ι := GPar × GItem) (γ := Tok × Tok × Vt) (fun q73 g73 => []) (fun q73 g73 => [boxE b_a_x ((q73.1.l, q73.1.at_, (q73.1.m.name, q73.1.m.tagging, (TList.mk g73.1 q73.1.m.names), (TList.mk g73.2.1 q73.1.m.types), (Vh.mk g73.2.2 q73.1.m.nodes.length)), q73.1.e, q73.1.p) : ((List GTok) × Int × (Str × Int × (TList Str) × (TList Int) × Vh) × Int × Int)), tokE g73.1, tokE g73.2.1, vecE g73.2.2 (q73.1.m.nodes : List GNode), boxE b68 (q73.2 : GItem)]) (.cons .here (.cons (.there (.there (.there .here))) (.cons .here (.cons .here (.cons .here .nil))))) h (fun q73 g73 h => ?_) (fun J74 h hJ74 => ?_)
              · skip
                refine w_pinN 4 (.there (.there (.there (.there .here)))) rfl (fun o83 hn84 => ?_)
                refine w_regionD (.v 0 (.v 1 (.v 2 (.v 3 (.v 5 (.two 4 (.t 6 (.t 7 (.v 8 (.v 9 (.t 10 .nil))))) 6 (.t 4 (.t 7 (.v 8 (.v 9 (.t 10 .nil))))))))))) moOrd (by kernel_rfl) ?_
                refine rd_v rfl (v_move rfl) ?_
                refine rd_v rfl (v_move rfl) ?_
                refine rd_v rfl (v_nilCheck rfl) ?_
                refine rd_v rfl (v_fa rfl pt83_0_4 fd83_4) ?_
                refine rd_v rfl (v_lpC (R := isv (q73.2)) ty111 rfl (by simp) (fun _ _ h => h)) ?_
                refine asr_inv h fun q87 h => ?_
                refine rd_two ?_ ?_
                · skip
                  refine rd_t rfl rfl (t_loadC (R := appv g8.2.2.2.1 (q8.2.items)) ty80 rfl (.there (.there (.there (.there .here)))) isvT1 ?_)
                  refine rd_t rfl rfl (t_buildSlice (l := ([q73.2] : (List GItem))) el80 (.cons rfl (fun _ _ h => h) .nil) rfl rfl ?_)
                  refine rd_t rfl rfl (t_appC (l := q8.2.items) (m := ([q73.2] : (List GItem))) ap80_80 rfl (fun _ _ h => h) rfl appv_isv (.there (.there (.there (.there (.there .here))))) q87 fun t86 => ?_)
                  refine rd_v rfl (v_nilCheck rfl) ?_
                  refine rd_v rfl (v_fa rfl pt83_0_4 fd83_4) ?_
                  refine rd_t rfl rfl (t_storeC (y' := ((q8.2.kind, q8.2.name, q8.2.mark, q8.2.con, (TList.mk t86 (q8.2.items ++ ([q73.2] : (List GItem)))), (TList.mk g8.2.2.2.2 q8.2.fields), q8.2.root, q8.2.more, q8.2.of) : (Int × Str × GMark × GCon × (TList GItem) × (TList GFld) × Int × Bool × Int))) ty80 rfl rfl isvT2 (.there (.there (.there (.there (.there .here))))) rfl ?_)
                  refine rd_nil ?_
                  refine fin_unpinN 4 hn84 rfl ?_
                  exact hJ63 _ (g73.1, g73.2.1, g73.2.2, t86, g8.2.2.2.2) h _ (join_imp 18 rfl rfl mod_nil (.cons (.there (.there (.there .here))) (.cons (.there (.there (.there .here))) (.cons (.there (.there (.there .here))) (.cons (.there (.there (.there .here))) (.cons (.there .here) (.cons (.there .here) (.cons (.there .here) .nil))))))))
                · skip
                  refine rd_t rfl rfl (t_buildSlice (l := ([q73.2] : (List GItem))) el80 (.cons rfl (fun _ _ h => h) .nil) rfl rfl ?_)
                  refine rd_t rfl rfl (t_loadC (R := appv g8.2.2.2.1 (q8.2.items)) ty80 rfl (.there (.there (.there (.there .here)))) isvT1 ?_)
                  refine rd_t rfl rfl (t_appC (l := q8.2.items) (m := ([q73.2] : (List GItem))) ap80_80 rfl (fun _ _ h => h) rfl appv_isv (.there (.there (.there (.there (.there .here))))) q87 fun t89 => ?_)
                  refine rd_v rfl (v_nilCheck rfl) ?_
                  refine rd_v rfl (v_fa rfl pt83_0_4 fd83_4) ?_
                  refine rd_t rfl rfl (t_storeC (y' := ((q8.2.kind, q8.2.name, q8.2.mark, q8.2.con, (TList.mk t89 (q8.2.items ++ ([q73.2] : (List GItem)))), (TList.mk g8.2.2.2.2 q8.2.fields), q8.2.root, q8.2.more, q8.2.of) : (Int × Str × GMark × GCon × (TList GItem) × (TList GFld) × Int × Bool × Int))) ty80 rfl rfl isvT2 (.there (.there (.there (.there (.there .here))))) rfl ?_)
                  refine rd_nil ?_
                  refine fin_unpinN 4 hn84 rfl ?_
                  exact hJ63 _ (g73.1, g73.2.1, g73.2.2, t89, g8.2.2.2.2) h _ (join_imp 18 rfl rfl mod_nil (.cons (.there (.there (.there .here))) (.cons (.there (.there (.there .here))) (.cons (.there (.there (.there .here))) (.cons (.there (.there (.there .here))) (.cons (.there .here) (.cons (.there .here) (.cons (.there .here) .nil))))))))
              · skip
                refine w_condM h rfl (fun _ h => ?_) (fun _ h => ?_)
                · skip
                  refine w_seq ?_
                  refine w_region ?_
                  refine op_cons rfl (OpV.t (v_move rfl) ?_)
                  refine cal_inv h fun y75 hy75 h => ?_
                  refine op_cons rfl (t_call (r05_parser_number_w hy75) hT (.same rfl .nil) (.cons .here (.cons .here (.cons .here (.cons .here .nil)))) (fun R H' hR => ?_))
                  obtain ⟨t76, t77, v78, rfl, rfl⟩ := hR
                  refine op_cons rfl (OpV.t (v_fa rfl GItem.f2 fd111_2) ?_)
                  refine op_cons rfl (t_storeC (y' := ((GItem.mk y64.1 (0 : Int) true) : GItem)) ty4 rfl rfl (fun _ _ h => h) (.there (.there (.there (.there .here)))) rfl ?_)
                  refine op_cons rfl (OpV.t (v_fa rfl GItem.f1 fd111_1) ?_)
                  refine op_cons rfl (t_storeC (y' := ((GItem.mk y64.1 y75.1 true) : GItem)) ty2 rfl rfl (fun _ _ h => h) .here rfl ?_)
                  refine rl_nil ?_
                  refine fin_nxt ?_
                  refine w_region ?_
                  refine op_cons rfl (OpV.t (v_move rfl) ?_)
                  refine cal_inv h fun y79 hy79 h => ?_
                  refine op_cons rfl (t_call (r05_parser_must_w hy79) hT (.same rfl (.same rfl .nil)) (.cons (.there .here) (.cons (.there .here) (.cons (.there .here) (.cons (.there .here) .nil)))) (fun R H' hR => ?_))
                  obtain ⟨t80, t81, v82, rfl, rfl⟩ := hR
                  refine rl_nil ?_
                  exact hJ74 _ (t80, t81, v82) h _ (join_imp 6 rfl rfl mod_nil (.cons .here (.cons .here (.cons .here (.cons .here (.cons .here (.cons .here (.cons .here (.cons .here .nil)))))))))
                · skip
                  refine w_skip ?_
                  exact hJ74 _ (t70, t71, v72) h _ (join_imp 0 rfl rfl mod_nil (.cons .here (.cons .here (.cons .here (.cons .here (.cons .here (.cons .here (.cons .here (.cons .here .nil)))))))))
        · skip
          refine rl_condM (j := 23) h rfl (fun g57 h => ?_) (fun g57 h => ?_)
          · skip
            refine op_take rfl rfl (dj := 23) rfl g57 (OpV.t (v_move rfl) ?_)
            refine cal_inv h fun y58 hy58 h => ?_
            refine op_take rfl rfl (dj := 23) rfl g57 (t_call (r05_parser_is_w hy58) hT (.same rfl (.same rfl .nil)) (.cons .here (.cons .here (.cons .here (.cons .here .nil)))) (fun R H' hR => ?_))
            obtain ⟨t59, t60, v61, rfl, rfl⟩ := hR
            refine op_cons rfl (OpV.t (v_pick_t rfl g57 rfl) ?_)
            exact hJ56 _ (t59, t60, v61) h _ (join_imp 3 rfl rfl (mod_cons (j := 26) rfl (fun _ _ h => h) mod_nil) (.cons .here (.cons .here (.cons .here (.cons .here (.cons .here (.cons .here (.cons .here .nil))))))))
          · skip
            refine op_pass rfl (dj := 23) rfl g57 ?_
            refine op_pass rfl (dj := 23) rfl g57 ?_
            refine op_cons rfl (OpV.t (v_pick_f rfl g57 rfl) ?_)
            exact hJ56 _ (g8.1, g8.2.1, g8.2.2.1) h _ (join_imp 3 rfl rfl (mod_cons (j := 26) rfl (fun _ _ h => h) mod_nil) (.cons .here (.cons .here (.cons .here (.cons .here (.cons .here (.cons .here (.cons .here .nil))))))))
      · skip
        refine rl_condM (j := 16) h rfl (fun g54 h => ?_) (fun g54 h => ?_)
        · skip
          refine op_take rfl rfl (dj := 16) rfl g54 (OpV.t (v_move rfl) ?_)
          refine op_take rfl rfl (dj := 16) rfl g54 (OpV.t (v_nilCheck rfl) ?_)
          refine op_take rfl rfl (dj := 16) rfl g54 (OpV.t (v_fa rfl pt83_0_7 fd83_7) ?_)
          refine op_take rfl rfl (dj := 16) rfl g54 (t_loadC (R := isv (q8.2.more)) ty4 rfl (.there (.there (.there (.there .here)))) (fun _ _ h => h) ?_)
          refine op_take rfl rfl (dj := 16) rfl g54 (OpV.t (v_not rfl) ?_)
          refine op_cons rfl (OpV.t (v_pick_t rfl g54 rfl) ?_)
          exact hJ53 _ () h _ (join_imp 6 rfl rfl (mod_cons (j := 22) rfl (fun _ _ h => h) mod_nil) (.cons .here (.cons .here (.cons .here (.cons .here (.cons .here (.cons .here (.cons .here .nil))))))))
        · skip
          refine op_pass rfl (dj := 16) rfl g54 ?_
          refine op_pass rfl (dj := 16) rfl g54 ?_
          refine op_pass rfl (dj := 16) rfl g54 ?_
          refine op_pass rfl (dj := 16) rfl g54 ?_
          refine op_pass rfl (dj := 16) rfl g54 ?_
          refine op_cons rfl (OpV.t (v_pick_f rfl g54 rfl) ?_)
          exact hJ53 _ () h _ (join_imp 6 rfl rfl (mod_cons (j := 22) rfl (fun _ _ h => h) mod_nil) (.cons .here (.cons .here (.cons .here (.cons .here (.cons .here (.cons .here (.cons .here .nil))))))))
    · skip
      refine w_exit ?_
      refine exi_nxt ?_
      refine eL9 _ _ ?_
      refine exi_block ?_
      exact hJ7 _ (g8.1, g8.2.1, g8.2.2.1, g8.2.2.2.1, g8.2.2.2.2) h _ (join_imp 5 rfl rfl mod_nil (.cons .here (.cons .here (.cons .here (.cons .here (.cons .here (.cons .here (.cons .here .nil))))))))


theorem r05_Hex_w : ∀ {a_s : Str} {r : (List UInt8)}, r05_Hex a_s = some r → Ctr Tryd.prog 74 [isv (a_s)] [] (fun R H => R = oneOf [isv (r)] ∧ H = []) := by
  intro a_s r h
  unfold r05_Hex at h
  refine spec_intro Tryd.func74 rfl (by decide +kernel) (by rfl) fun w0 S0 hT => ?_
  refine w_seq ?_
  refine w_region ?_
  refine op_cons rfl (OpV.t (v_assign rfl) ?_)
  refine rl_nil ?_
  refine fin_nxt ?_
  refine w_seq ?_
  refine w_region ?_
  refine op_cons rfl (OpV.t (v_assign rfl) ?_)
  refine rl_nil ?_
  refine fin_nxt ?_
  refine w_seq ?_
  refine w_seq ?_
  refine w_region ?_
  refine op_cons rfl (OpV.t (v_assign rfl) ?_)
  refine rl_nil ?_
  refine fin_nxt ?_
  refine w_block ?_
  refine w_upd (upd_tok) ?_
  refine w_lp (ι := (List UInt8) × Int) (γ := Tok) (fun q1 g1 => [(3, appv g1 (q1.1)), (4, isv (q1.2))]) (fun q1 g1 => [tokE g1]) h (none) (mod_cons (j := 3) rfl nilv_appv (mod_cons (j := 4) rfl (fun _ _ h => h) mod_nil)) (.cons .here .nil) (fun L2 q1 g1 Q60 h hL2 eL2 rL2 => ?_)
  refine w_seq ?_
  refine w_seq ?_
  refine w_region ?_
  refine op_cons rfl (OpV.t (v_move rfl) ?_)
  refine ck_inv h fun q31 h => ?_
  refine op_cons rfl (OpV.t (v_add rfl rfl q31) ?_)
  refine op_cons rfl (OpV.t (v_move rfl) ?_)
  refine op_cons rfl (OpV.t (v_lenS st9 rfl) ?_)
  refine op_cons rfl (OpV.t (v_lss rfl rfl) ?_)
  refine rl_nil ?_
  refine fin_nxt ?_
  refine w_condM h rfl (fun _ h => ?_) (fun _ h => ?_)
  · skip
    refine w_skip ?_
    refine fin_nxt ?_
    refine w_seq ?_
    refine w_block ?_
    refine w_seq ?_
    refine w_region ?_
    refine op_cons rfl (OpV.t (v_assign rfl) ?_)
    refine rl_nil ?_
    refine fin_nxt ?_
    refine w_seq ?_
    refine w_seq ?_
    refine w_region ?_
    refine op_cons rfl (OpV.t (v_move rfl) ?_)
    refine op_cons rfl (OpV.t (v_assign rfl) ?_)
    refine rl_nil ?_
    refine fin_nxt ?_
    refine w_block ?_
    refine w_lp (ι := UInt8 × Int) (γ := Unit) (fun q32 g32 => [(5, isv (q32.1)), (6, isv (q32.2))]) (fun q32 g32 => []) h () (mod_cons (j := 5) rfl (fun _ _ h => h) (mod_cons (j := 6) rfl (fun _ _ h => h) mod_nil)) .nil (fun L33 q32 g32 Q58 h hL33 eL33 rL33 => ?_)
    refine w_seq ?_
    refine w_seq ?_
    refine w_region ?_
    refine op_cons rfl (OpV.t (v_move rfl) ?_)
    refine op_cons rfl (OpV.t (v_move rfl) ?_)
    refine ck_inv h fun q46 h => ?_
    refine op_cons rfl (OpV.t (v_add rfl rfl q46) ?_)
    refine op_cons rfl (OpV.t (v_lss rfl rfl) ?_)
    refine rl_nil ?_
    refine fin_nxt ?_
    refine w_condM h rfl (fun _ h => ?_) (fun _ h => ?_)
    · skip
      refine w_skip ?_
      refine fin_nxt ?_
      refine w_seq ?_
      refine w_block ?_
      refine w_seq ?_
      refine w_region ?_
      refine op_cons rfl (OpV.t (v_move rfl) ?_)
      refine op_cons rfl (OpV.t (v_move rfl) ?_)
      refine cal_inv h fun y47 hy47 h => ?_
      refine op_cons rfl (OpV.t (v_idxS y47 st9 rfl rfl hy47) ?_)
      refine op_cons rfl (OpV.t (v_sub8 rfl rfl) ?_)
      refine op_cons rfl (OpV.t (v_assign rfl) ?_)
      refine rl_nil ?_
      refine fin_nxt ?_
      refine w_seq ?_
      refine w_seq ?_
      refine w_region ?_
      refine op_cons rfl (OpV.t (v_move rfl) ?_)
      refine op_cons rfl (OpV.t (v_move rfl) ?_)
      refine cal_inv h fun y48 hy48 h => ?_
      refine op_cons rfl (OpV.t (v_idxS y48 st9 rfl rfl hy48) ?_)
      refine op_cons rfl (OpV.t (v_geq8 rfl rfl) ?_)
      refine rl_nil ?_
      refine fin_nxt ?_
      refine w_J (ι := UInt8) (γ := Unit) (fun q49 g49 => [(7, isv (q49))]) (fun q49 g49 => []) .nil h (fun q49 g49 h => ?_) (fun J50 h hJ50 => ?_)
      · skip
        refine w_region ?_
        refine op_cons rfl (OpV.t (v_move rfl) ?_)
        refine asr_inv h fun q52 h => ?_
        refine op_cons rfl (OpV.t (v_shl8 rfl rfl q52) ?_)
        refine op_cons rfl (OpV.t (v_move rfl) ?_)
        refine op_cons rfl (OpV.t (v_or8 rfl rfl) ?_)
        refine op_cons rfl (OpV.t (v_assign rfl) ?_)
        refine rl_nil ?_
        refine fin_block ?_
        refine fin_nxt ?_
        refine w_region ?_
        refine op_cons rfl (OpV.t (v_move rfl) ?_)
        refine ck_inv h fun q53 h => ?_
        refine op_cons rfl (OpV.t (v_add rfl rfl q53) ?_)
        refine op_cons rfl (OpV.t (v_assign rfl) ?_)
        refine rl_nil ?_
        exact hL33 _ () h _ (join_imp 24 rfl rfl (mod_cons (j := 5) rfl (fun _ _ h => h) (mod_cons (j := 6) rfl (fun _ _ h => h) mod_nil)) (.cons .here .nil))
      · skip
        refine w_condM h rfl (fun _ h => ?_) (fun _ h => ?_)
        · skip
          refine w_region ?_
          refine op_cons rfl (OpV.t (v_move rfl) ?_)
          refine op_cons rfl (OpV.t (v_move rfl) ?_)
          refine cal_inv h fun y51 hy51 h => ?_
          refine op_cons rfl (OpV.t (v_idxS y51 st9 rfl rfl hy51) ?_)
          refine op_cons rfl (OpV.t (v_sub8 rfl rfl) ?_)
          refine op_cons rfl (OpV.t (v_add8 rfl rfl) ?_)
          refine op_cons rfl (OpV.t (v_assign rfl) ?_)
          refine rl_nil ?_
          exact hJ50 _ () h _ (join_imp 6 rfl rfl (mod_cons (j := 7) rfl (fun _ _ h => h) mod_nil) (.cons .here .nil))
        · skip
          refine w_skip ?_
          exact hJ50 _ () h _ (join_imp 0 rfl rfl (mod_cons (j := 7) rfl (fun _ _ h => h) mod_nil) (.cons .here .nil))
    · skip
      refine w_exit ?_
      refine exi_nxt ?_
      refine eL33 _ _ ?_
      refine exi_block ?_
      refine fin_nxt ?_
      refine w_region ?_
      refine op_cons rfl (OpV.t (v_move rfl) ?_)
      refine op_cons rfl (OpV.t (v_move rfl) ?_)
      refine op_cons rfl (t_buildSlice (l := ([q32.1] : (List UInt8))) el71 (.cons rfl (fun _ _ h => h) .nil) rfl rfl ?_)
      refine asr_inv h fun q56 h => ?_
      refine op_cons rfl (t_appC (l := q1.1) (m := ([q32.1] : (List UInt8))) ap71_71 rfl (fun _ _ h => h) rfl appv_isv .here q56 fun t55 => ?_)
      refine op_cons rfl (OpV.t (v_assign rfl) ?_)
      refine rl_nil ?_
      refine fin_block ?_
      refine fin_nxt ?_
      refine w_region ?_
      refine op_cons rfl (OpV.t (v_move rfl) ?_)
      refine ck_inv h fun q57 h => ?_
      refine op_cons rfl (OpV.t (v_add rfl rfl q57) ?_)
      refine op_cons rfl (OpV.t (v_assign rfl) ?_)
      refine rl_nil ?_
      exact hL2 _ (t55) h _ (join_imp 24 rfl rfl (mod_cons (j := 3) rfl (fun _ _ h => h) (mod_cons (j := 4) rfl (fun _ _ h => h) mod_nil)) (.cons .here .nil))
  · skip
    refine w_exit ?_
    refine exi_nxt ?_
    refine eL2 _ _ ?_
    refine exi_block ?_
    refine fin_nxt ?_
    refine w_seq ?_
    refine w_region ?_
    refine op_cons rfl (OpV.t (v_move rfl) ?_)
    refine op_cons rfl (OpV.t (v_assign rfl) ?_)
    refine rl_nil ?_
    refine fin_nxt ?_
    refine w_ret ?_
    refine ret_post (.as rfl appv_isv .nil) .nil ?_
    obtain rfl := Option.some.inj h
    exact ⟨rfl, rfl⟩


theorem r05_parser_value_w : ∀ {a_x : GPar} {b_a_x : Nat} {t_a_x1 : Tok} {t_a_x2 : Tok} {v_a_x3 : Vt} {r : Val × GPar}, r05_parser_value a_x = some r → Ctr Tryd.prog 73 [ptrv b_a_x (Fld.id ((List GTok) × Int × (Str × Int × (TList Str) × (TList Int) × Vh) × Int × Int))] [boxE b_a_x ((a_x.l, a_x.at_, (a_x.m.name, a_x.m.tagging, (TList.mk t_a_x1 a_x.m.names), (TList.mk t_a_x2 a_x.m.types), (Vh.mk v_a_x3 a_x.m.nodes.length)), a_x.e, a_x.p) : ((List GTok) × Int × (Str × Int × (TList Str) × (TList Int) × Vh) × Int × Int)), tokE t_a_x1, tokE t_a_x2, vecE v_a_x3 (a_x.m.nodes : List GNode)] (fun R H => ∃ u1 : Tok, ∃ u2 : Tok, ∃ u3 : Vt, R = oneOf [isv (r.1)] ∧ H = [boxE b_a_x ((r.2.l, r.2.at_, (r.2.m.name, r.2.m.tagging, (TList.mk u1 r.2.m.names), (TList.mk u2 r.2.m.types), (Vh.mk u3 r.2.m.nodes.length)), r.2.e, r.2.p)), tokE u1, tokE u2, vecE u3 (r.2.m.nodes)]) := by
  intro a_x b_a_x t_a_x1 t_a_x2 v_a_x3 r h
  unfold r05_parser_value at h
  refine spec_intro Tryd.func73 rfl (by decide +kernel) (by rfl) fun w0 S0 hT => ?_
  refine w_seq ?_
  refine w_region ?_
  refine op_cons rfl (t_alloc _ ze95 fun b4 => ?_)
  refine rl_nil ?_
  refine fin_nxt ?_
  refine w_seq ?_
  refine w_region ?_
  refine op_cons rfl (OpV.t (v_move rfl) ?_)
  refine cal_inv h fun y5 hy5 h => ?_
  refine op_cons rfl (t_call (r05_parser_now_w hy5) hT (.same rfl .nil) (.cons (.there .here) (.cons (.there .here) (.cons (.there .here) (.cons (.there .here) .nil)))) (fun R H' hR => ?_))
  obtain ⟨t6, t7, v8, rfl, rfl⟩ := hR
  refine op_cons rfl (t_alloc _ ze53 fun b9 => ?_)
  refine op_cons rfl (t_storeC (y' := (y5.1 : GTok)) ty53 rfl rfl (fun _ _ h => h) .here rfl ?_)
  refine rl_upd (upd_imm 3 .here rfl) ?_
  refine rl_nil ?_
  refine fin_nxt ?_
  refine w_seq ?_
  refine w_J (ι := GPar) (γ := Tok × Tok × Vt) (fun q10 g10 => []) (fun q10 g10 => [boxE b_a_x ((q10.l, q10.at_, (q10.m.name, q10.m.tagging, (TList.mk g10.1 q10.m.names), (TList.mk g10.2.1 q10.m.types), (Vh.mk g10.2.2 q10.m.nodes.length)), q10.e, q10.p) : ((List GTok) × Int × (Str × Int × (TList Str) × (TList Int) × Vh) × Int × Int)), tokE g10.1, tokE g10.2.1, vecE g10.2.2 (q10.m.nodes : List GNode)]) (.cons .here (.cons .here (.cons .here (.cons .here .nil)))) h (fun q10 g10 h => ?_) (fun J11 h hJ11 => ?_)
  · skip
    refine w_seq ?_
    refine w_region ?_
    refine op_cons rfl (OpV.t (v_build (z := (Val.mk (0 : Int) (0 : Int) ([] : (List UInt8)) ([] : (List Val)) (0 : Int) ([] : (List Raw)))) rfl bu95 ze95 .nil) ?_)
    refine op_cons rfl (t_storeC (y' := ((Val.mk (0 : Int) (0 : Int) ([] : (List UInt8)) ([] : (List Val)) (0 : Int) ([] : (List Raw))) : Val)) ty95 rfl rfl (fun _ _ h => h) (.there (.there (.there (.there .here)))) rfl ?_)
    refine rl_nil ?_
    refine fin_nxt ?_
    refine w_ret ?_
    refine ret_post (.cell rfl .here ty95 .nil) (.cons (.there .here) (.cons (.there .here) (.cons (.there .here) (.cons (.there .here) .nil)))) ?_
    obtain rfl := Option.some.inj h
    exact ⟨g10.1, g10.2.1, g10.2.2, rfl, rfl⟩
  · skip
    refine w_block ?_
    refine w_seq ?_
    refine w_region ?_
    refine op_cons rfl (OpV.t (v_move rfl) ?_)
    refine op_cons rfl (OpV.t (v_nilCheck rfl) ?_)
    refine op_cons rfl (OpV.t (v_fa rfl pt49_0_3 fd49_3) ?_)
    refine op_cons rfl (t_loadC (R := isv (y5.2.e)) ty27 rfl .here (fun _ _ h => h) ?_)
    refine op_cons rfl (OpV.t (v_neq rfl rfl) ?_)
    refine op_cons rfl (OpV.t (v_assign rfl) ?_)
    refine rl_nil ?_
    refine fin_nxt ?_
    refine w_condM h rfl (fun _ h => ?_) (fun _ h => ?_)
    · skip
      refine w_skip ?_
      refine fin_block ?_
      exact hJ11 _ (t6, t7, v8) h _ (join_imp 6 rfl rfl mod_nil (.cons .here (.cons .here (.cons .here (.cons .here (.cons .here .nil))))))
    · skip
      refine w_seq ?_
      refine w_region ?_
      refine op_cons rfl (OpV.t (v_move rfl) ?_)
      refine cal_inv h fun y12 hy12 h => ?_
      refine op_cons rfl (t_call (r05_parser_is_w hy12) hT (.same rfl (.same rfl .nil)) (.cons .here (.cons .here (.cons .here (.cons .here .nil)))) (fun R H' hR => ?_))
      obtain ⟨t13, t14, v15, rfl, rfl⟩ := hR
      refine op_cons rfl (OpV.t (v_assign rfl) ?_)
      refine rl_nil ?_
      refine fin_nxt ?_
      refine w_condM h rfl (fun _ h => ?_) (fun _ h => ?_)
      · skip
        refine w_seq ?_
        refine w_region ?_
        refine op_cons rfl (OpV.t (v_build (z := (Val.mk (1 : Int) (1 : Int) ([] : (List UInt8)) ([] : (List Val)) (0 : Int) ([] : (List Raw)))) rfl bu95 ze95 (.cons Val.f0 fd95_0 rfl (fun _ _ h => h) (.cons Val.f1 fd95_1 rfl (fun _ _ h => h) .nil))) ?_)
        refine op_cons rfl (t_storeC (y' := ((Val.mk (1 : Int) (1 : Int) ([] : (List UInt8)) ([] : (List Val)) (0 : Int) ([] : (List Raw))) : Val)) ty95 rfl rfl (fun _ _ h => h) (.there (.there (.there (.there .here)))) rfl ?_)
        refine rl_nil ?_
        refine fin_nxt ?_
        refine w_ret ?_
        refine ret_block ?_
        refine ret_nxt ?_
        refine ret_post (.cell rfl .here ty95 .nil) (.cons (.there .here) (.cons (.there .here) (.cons (.there .here) (.cons (.there .here) .nil)))) ?_
        obtain rfl := Option.some.inj h
        exact ⟨t13, t14, v15, rfl, rfl⟩
      · skip
        refine w_seq ?_
        refine w_region ?_
        refine op_cons rfl (OpV.t (v_move rfl) ?_)
        refine cal_inv h fun y16 hy16 h => ?_
        refine op_cons rfl (t_call (r05_parser_is_w hy16) hT (.same rfl (.same rfl .nil)) (.cons .here (.cons .here (.cons .here (.cons .here .nil)))) (fun R H' hR => ?_))
        obtain ⟨t17, t18, v19, rfl, rfl⟩ := hR
        refine op_cons rfl (OpV.t (v_assign rfl) ?_)
        refine rl_nil ?_
        refine fin_nxt ?_
        refine w_condM h rfl (fun _ h => ?_) (fun _ h => ?_)
        · skip
          refine w_seq ?_
          refine w_region ?_
          refine op_cons rfl (OpV.t (v_build (z := (Val.mk (1 : Int) (0 : Int) ([] : (List UInt8)) ([] : (List Val)) (0 : Int) ([] : (List Raw)))) rfl bu95 ze95 (.cons Val.f0 fd95_0 rfl (fun _ _ h => h) .nil)) ?_)
          refine op_cons rfl (t_storeC (y' := ((Val.mk (1 : Int) (0 : Int) ([] : (List UInt8)) ([] : (List Val)) (0 : Int) ([] : (List Raw))) : Val)) ty95 rfl rfl (fun _ _ h => h) (.there (.there (.there (.there .here)))) rfl ?_)
          refine rl_nil ?_
          refine fin_nxt ?_
          refine w_ret ?_
          refine ret_block ?_
          refine ret_nxt ?_
          refine ret_post (.cell rfl .here ty95 .nil) (.cons (.there .here) (.cons (.there .here) (.cons (.there .here) (.cons (.there .here) .nil)))) ?_
          obtain rfl := Option.some.inj h
          exact ⟨t17, t18, v19, rfl, rfl⟩
        · skip
          refine w_seq ?_
          refine w_region ?_
          refine op_cons rfl (OpV.t (v_move rfl) ?_)
          refine cal_inv h fun y20 hy20 h => ?_
          refine op_cons rfl (t_call (r05_parser_is_w hy20) hT (.same rfl (.same rfl .nil)) (.cons .here (.cons .here (.cons .here (.cons .here .nil)))) (fun R H' hR => ?_))
          obtain ⟨t21, t22, v23, rfl, rfl⟩ := hR
          refine op_cons rfl (OpV.t (v_assign rfl) ?_)
          refine rl_nil ?_
          refine fin_nxt ?_
          refine w_condM h rfl (fun _ h => ?_) (fun _ h => ?_)
          · skip
            refine w_seq ?_
            refine w_region ?_
            refine op_cons rfl (OpV.t (v_build (z := (Val.mk (4 : Int) (0 : Int) ([] : (List UInt8)) ([] : (List Val)) (0 : Int) ([] : (List Raw)))) rfl bu95 ze95 (.cons Val.f0 fd95_0 rfl (fun _ _ h => h) .nil)) ?_)
            refine op_cons rfl (t_storeC (y' := ((Val.mk (4 : Int) (0 : Int) ([] : (List UInt8)) ([] : (List Val)) (0 : Int) ([] : (List Raw))) : Val)) ty95 rfl rfl (fun _ _ h => h) (.there (.there (.there (.there .here)))) rfl ?_)
            refine rl_nil ?_
            refine fin_nxt ?_
            refine w_ret ?_
            refine ret_block ?_
            refine ret_nxt ?_
            refine ret_post (.cell rfl .here ty95 .nil) (.cons (.there .here) (.cons (.there .here) (.cons (.there .here) (.cons (.there .here) .nil)))) ?_
            obtain rfl := Option.some.inj h
            exact ⟨t21, t22, v23, rfl, rfl⟩
          · skip
            refine w_seq ?_
            refine w_region ?_
            refine op_cons rfl (OpV.t (v_fi rfl GTok.f0 fd53_0 rfl (z := y5.1.kind)) ?_)
            refine op_cons rfl (OpV.t (v_loadI ty3 rfl) ?_)
            refine op_cons rfl (OpV.t (v_eql rfl rfl) ?_)
            refine op_cons rfl (OpV.t (v_assign rfl) ?_)
            refine rl_nil ?_
            refine fin_nxt ?_
            refine w_condM h rfl (fun _ h => ?_) (fun _ h => ?_)
            · skip
              refine w_seq ?_
              refine w_region ?_
              refine op_cons rfl (OpV.t (v_move rfl) ?_)
              refine cal_inv h fun y24 hy24 h => ?_
              refine op_cons rfl (t_call (r05_parser_next_w hy24) hT (.same rfl .nil) (.cons .here (.cons .here (.cons .here (.cons .here .nil)))) (fun R H' hR => ?_))
              obtain ⟨t25, t26, v27, rfl, rfl⟩ := hR
              refine op_cons rfl (OpV.t (v_field GTok.f1 rfl fd53_1 rfl) ?_)
              refine cal_inv h fun y28 hy28 h => ?_
              refine op_cons rfl (t_call (r05_Whole_w hy28) hT (.same rfl .nil) .nil (fun R H' hR => ?_))
              obtain ⟨rfl, rfl⟩ := hR
              refine op_cons rfl (OpV.t (v_build (z := (Val.mk (2 : Int) y28 ([] : (List UInt8)) ([] : (List Val)) (0 : Int) ([] : (List Raw)))) rfl bu95 ze95 (.cons Val.f0 fd95_0 rfl (fun _ _ h => h) (.cons Val.f1 fd95_1 rfl (fun _ _ h => h) .nil))) ?_)
              refine op_cons rfl (t_storeC (y' := ((Val.mk (2 : Int) y28 ([] : (List UInt8)) ([] : (List Val)) (0 : Int) ([] : (List Raw))) : Val)) ty95 rfl rfl (fun _ _ h => h) (.there (.there (.there (.there .here)))) rfl ?_)
              refine rl_nil ?_
              refine fin_nxt ?_
              refine w_ret ?_
              refine ret_block ?_
              refine ret_nxt ?_
              refine ret_post (.cell rfl .here ty95 .nil) (.cons (.there .here) (.cons (.there .here) (.cons (.there .here) (.cons (.there .here) .nil)))) ?_
              obtain rfl := Option.some.inj h
              exact ⟨t25, t26, v27, rfl, rfl⟩
            · skip
              refine w_seq ?_
              refine w_region ?_
              refine op_cons rfl (OpV.t (v_fi rfl GTok.f0 fd53_0 rfl (z := y5.1.kind)) ?_)
              refine op_cons rfl (OpV.t (v_loadI ty3 rfl) ?_)
              refine op_cons rfl (OpV.t (v_eql rfl rfl) ?_)
              refine op_cons rfl (OpV.t (v_assign rfl) ?_)
              refine rl_nil ?_
              refine fin_nxt ?_
              refine w_condM h rfl (fun _ h => ?_) (fun _ h => ?_)
              · skip
                refine w_seq ?_
                refine w_region ?_
                refine op_cons rfl (OpV.t (v_move rfl) ?_)
                refine cal_inv h fun y29 hy29 h => ?_
                refine op_cons rfl (t_call (r05_parser_next_w hy29) hT (.same rfl .nil) (.cons .here (.cons .here (.cons .here (.cons .here .nil)))) (fun R H' hR => ?_))
                obtain ⟨t30, t31, v32, rfl, rfl⟩ := hR
                refine op_cons rfl (OpV.t (v_field GTok.f1 rfl fd53_1 rfl) ?_)
                refine asr_inv h fun q33 h => ?_
                refine op_cons rfl (t_sb Tryd.underlying9 Tryd.underlying71 Tryd.underlying5 rfl q33 ?_)
                refine op_cons rfl (OpV.t (v_build (z := (Val.mk (3 : Int) (0 : Int) y29.1.text.b ([] : (List Val)) (0 : Int) ([] : (List Raw)))) rfl bu95 ze95 (.cons Val.f0 fd95_0 rfl (fun _ _ h => h) (.cons Val.f2 fd95_2 rfl (fun _ _ h => h) .nil))) ?_)
                refine op_cons rfl (t_storeC (y' := ((Val.mk (3 : Int) (0 : Int) y29.1.text.b ([] : (List Val)) (0 : Int) ([] : (List Raw))) : Val)) ty95 rfl rfl (fun _ _ h => h) (.there (.there (.there (.there .here)))) rfl ?_)
                refine rl_nil ?_
                refine fin_nxt ?_
                refine w_ret ?_
                refine ret_block ?_
                refine ret_nxt ?_
                refine ret_post (.cell rfl .here ty95 .nil) (.cons (.there .here) (.cons (.there .here) (.cons (.there .here) (.cons (.there .here) .nil)))) ?_
                obtain rfl := Option.some.inj h
                exact ⟨t30, t31, v32, rfl, rfl⟩
              · skip
                refine w_seq ?_
                refine w_region ?_
                refine op_cons rfl (OpV.t (v_fi rfl GTok.f0 fd53_0 rfl (z := y5.1.kind)) ?_)
                refine op_cons rfl (OpV.t (v_loadI ty3 rfl) ?_)
                refine op_cons rfl (OpV.t (v_eql rfl rfl) ?_)
                refine op_cons rfl (OpV.t (v_assign rfl) ?_)
                refine rl_nil ?_
                refine fin_nxt ?_
                refine w_condM h rfl (fun _ h => ?_) (fun _ h => ?_)
                · skip
                  refine w_seq ?_
                  refine w_region ?_
                  refine op_cons rfl (OpV.t (v_move rfl) ?_)
                  refine cal_inv h fun y34 hy34 h => ?_
                  refine op_cons rfl (t_call (r05_parser_next_w hy34) hT (.same rfl .nil) (.cons .here (.cons .here (.cons .here (.cons .here .nil)))) (fun R H' hR => ?_))
                  obtain ⟨t35, t36, v37, rfl, rfl⟩ := hR
                  refine op_cons rfl (OpV.t (v_field GTok.f1 rfl fd53_1 rfl) ?_)
                  refine cal_inv h fun y38 hy38 h => ?_
                  refine op_cons rfl (t_call (r05_Hex_w hy38) hT (.same rfl .nil) .nil (fun R H' hR => ?_))
                  obtain ⟨rfl, rfl⟩ := hR
                  refine op_cons rfl (OpV.t (v_build (z := (Val.mk (5 : Int) (0 : Int) y38 ([] : (List Val)) (0 : Int) ([] : (List Raw)))) rfl bu95 ze95 (.cons Val.f0 fd95_0 rfl (fun _ _ h => h) (.cons Val.f2 fd95_2 rfl (fun _ _ h => h) .nil))) ?_)
                  refine op_cons rfl (t_storeC (y' := ((Val.mk (5 : Int) (0 : Int) y38 ([] : (List Val)) (0 : Int) ([] : (List Raw))) : Val)) ty95 rfl rfl (fun _ _ h => h) (.there (.there (.there (.there .here)))) rfl ?_)
                  refine rl_nil ?_
                  refine fin_nxt ?_
                  refine w_ret ?_
                  refine ret_block ?_
                  refine ret_nxt ?_
                  refine ret_post (.cell rfl .here ty95 .nil) (.cons (.there .here) (.cons (.there .here) (.cons (.there .here) (.cons (.there .here) .nil)))) ?_
                  obtain rfl := Option.some.inj h
                  exact ⟨t35, t36, v37, rfl, rfl⟩
                · skip
                  refine w_seq ?_
                  refine w_region ?_
                  refine op_cons rfl (OpV.t (v_fi rfl GTok.f0 fd53_0 rfl (z := y5.1.kind)) ?_)
                  refine op_cons rfl (OpV.t (v_loadI ty3 rfl) ?_)
                  refine op_cons rfl (OpV.t (v_eql rfl rfl) ?_)
                  refine op_cons rfl (OpV.t (v_assign rfl) ?_)
                  refine rl_nil ?_
                  refine fin_nxt ?_
                  refine w_condM h rfl (fun _ h => ?_) (fun _ h => ?_)
                  · skip
                    refine w_seq ?_
                    refine w_region ?_
                    refine op_cons rfl (OpV.t (v_move rfl) ?_)
                    refine cal_inv h fun y39 hy39 h => ?_
                    refine op_cons rfl (t_call (r05_parser_next_w hy39) hT (.same rfl .nil) (.cons .here (.cons .here (.cons .here (.cons .here .nil)))) (fun R H' hR => ?_))
                    obtain ⟨t40, t41, v42, rfl, rfl⟩ := hR
                    refine op_cons rfl (OpV.t (v_field GTok.f1 rfl fd53_1 rfl) ?_)
                    refine asr_inv h fun q43 h => ?_
                    refine op_cons rfl (t_sb Tryd.underlying9 Tryd.underlying71 Tryd.underlying5 rfl q43 ?_)
                    refine op_cons rfl (OpV.t (v_build (z := (Val.mk (6 : Int) (0 : Int) y39.1.text.b ([] : (List Val)) (0 : Int) ([] : (List Raw)))) rfl bu95 ze95 (.cons Val.f0 fd95_0 rfl (fun _ _ h => h) (.cons Val.f2 fd95_2 rfl (fun _ _ h => h) .nil))) ?_)
                    refine op_cons rfl (t_storeC (y' := ((Val.mk (6 : Int) (0 : Int) y39.1.text.b ([] : (List Val)) (0 : Int) ([] : (List Raw))) : Val)) ty95 rfl rfl (fun _ _ h => h) (.there (.there (.there (.there .here)))) rfl ?_)
                    refine rl_nil ?_
                    refine fin_nxt ?_
                    refine w_ret ?_
                    refine ret_block ?_
                    refine ret_nxt ?_
                    refine ret_post (.cell rfl .here ty95 .nil) (.cons (.there .here) (.cons (.there .here) (.cons (.there .here) (.cons (.there .here) .nil)))) ?_
                    obtain rfl := Option.some.inj h
                    exact ⟨t40, t41, v42, rfl, rfl⟩
                  · skip
                    refine w_region ?_
                    refine op_cons rfl (OpV.t (v_move rfl) ?_)
                    refine op_cons rfl (OpV.t (v_loadI ty53 rfl) ?_)
                    refine cal_inv h fun y44 hy44 h => ?_
                    refine op_cons rfl (t_call (r05_parser_fail_w hy44) hT (.same rfl (.same rfl (.same rfl .nil))) (.cons .here (.cons .here (.cons .here (.cons .here .nil)))) (fun R H' hR => ?_))
                    obtain ⟨t45, t46, v47, rfl, rfl⟩ := hR
                    refine rl_nil ?_
                    refine fin_block ?_
                    exact hJ11 _ (t45, t46, v47) h _ (join_imp 34 rfl rfl mod_nil (.cons .here (.cons .here (.cons .here (.cons .here (.cons .here .nil))))))

end Go.Proofs.YtdcdndflfhaejaaDoor
