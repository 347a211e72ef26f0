/- Walks. -/
import Derived.Test.YtlngkmmajaaloaaTypes
import Derived.Test.YtlngkmmajaaloaaPlain
namespace Go.Proofs.Ytlngkmmajaaloaa
open Go.Sy
theorem less_spec (a b : Tag) : Ctr Try.prog 15 [isv a, isv b] [] (pureP (Tag.less a b)) := by
  refine spec_intro Try.func15 rfl (by decide +kernel) (by rfl) fun w0 S0 => ?_
  refine w_seq ?_
  refine w_region ?_
  refine op_cons rfl (t_boxI rfl ?_)
  refine op_cons rfl (t_boxI rfl ?_)
  refine op_cons rfl (OpV.t (v_assign rfl) ?_)
  refine rl_nil ?_
  refine fin_nxt ?_
  refine w_seq ?_
  refine w_seq ?_
  refine w_region ?_
  refine op_cons rfl (OpV.t (v_fieldAddrI Tag.f0 fd26_0 rfl) ?_)
  refine op_cons rfl (OpV.t (v_loadI ty3 rfl) ?_)
  refine op_cons rfl (OpV.t (v_fieldAddrI Tag.f0 fd26_0 rfl) ?_)
  refine op_cons rfl (OpV.t (v_loadI ty3 rfl) ?_)
  refine op_cons rfl (OpV.t (v_neq rfl rfl) ?_)
  refine rl_nil ?_
  refine fin_nxt ?_
  refine w_cond rfl (fun h2b => ?_) (fun h2b => ?_)
  · have h2 := dec_nt h2b
    refine w_seq ?_
    refine w_region ?_
    refine op_cons rfl (OpV.t (v_fieldAddrI Tag.f0 fd26_0 rfl) ?_)
    refine op_cons rfl (OpV.t (v_loadI ty3 rfl) ?_)
    refine op_cons rfl (OpV.t (v_fieldAddrI Tag.f0 fd26_0 rfl) ?_)
    refine op_cons rfl (OpV.t (v_loadI ty3 rfl) ?_)
    refine op_cons rfl (OpV.t (v_lss rfl rfl) ?_)
    refine op_cons rfl (OpV.t (v_assign rfl) ?_)
    refine rl_nil ?_
    refine fin_nxt ?_
    refine w_ret ?_
    refine ret_nxt ?_
    refine ret_post (.tmp rfl .nil) .nil ?_
    exact pure1 (by simp_all [Tag.less])
  · have h2 := dec_nf h2b
    refine w_skip ?_
    refine fin_nxt ?_
    refine w_seq ?_
    refine w_region ?_
    refine op_cons rfl (OpV.t (v_fieldAddrI Tag.f1 fd26_1 rfl) ?_)
    refine op_cons rfl (OpV.t (v_loadI ty3 rfl) ?_)
    refine op_cons rfl (OpV.t (v_fieldAddrI Tag.f1 fd26_1 rfl) ?_)
    refine op_cons rfl (OpV.t (v_loadI ty3 rfl) ?_)
    refine op_cons rfl (OpV.t (v_lss rfl rfl) ?_)
    refine op_cons rfl (OpV.t (v_assign rfl) ?_)
    refine rl_nil ?_
    refine fin_nxt ?_
    refine w_ret ?_
    refine ret_post (.tmp rfl .nil) .nil ?_
    exact pure1 (by simp_all [Tag.less])

theorem rless_spec (a b : Tag) : Ctr Try.prog 19 [isv a, isv b] [] (pureP (Tag.less a b)) := by
  refine spec_intro Try.func19 rfl (by decide +kernel) (by rfl) fun w0 S0 => ?_
  refine w_seq ?_
  refine w_region ?_
  refine op_cons rfl (t_boxI rfl ?_)
  refine op_cons rfl (t_boxI rfl ?_)
  refine op_cons rfl (OpV.t (v_assign rfl) ?_)
  refine rl_nil ?_
  refine fin_nxt ?_
  refine w_seq ?_
  refine w_region ?_
  refine op_cons rfl (OpV.t (v_fieldAddrI Tag.f0 fd26_0 rfl) ?_)
  refine op_cons rfl (OpV.t (v_loadI ty3 rfl) ?_)
  refine op_cons rfl (OpV.t (v_fieldAddrI Tag.f0 fd26_0 rfl) ?_)
  refine op_cons rfl (OpV.t (v_loadI ty3 rfl) ?_)
  refine op_cons rfl (OpV.t (v_lss rfl rfl) ?_)
  refine op_cons rfl (OpV.t (v_move rfl) ?_)
  refine rl_split (j := 10) rfl (fun h2b => ?_) (fun h2b => ?_)
  · have h2 := of_decide_eq_true h2b
    refine op_pass rfl (dj := 10) rfl h2b ?_
    refine op_pass rfl (dj := 10) rfl h2b ?_
    refine op_pass rfl (dj := 10) rfl h2b ?_
    refine op_pass rfl (dj := 10) rfl h2b ?_
    refine op_pass rfl (dj := 10) rfl h2b ?_
    refine op_pass rfl (dj := 10) rfl h2b ?_
    refine op_passU rfl (dj := 16) rfl ?_
    refine op_passU rfl (dj := 16) rfl ?_
    refine op_passU rfl (dj := 16) rfl ?_
    refine op_passU rfl (dj := 16) rfl ?_
    refine op_passU rfl (dj := 16) rfl ?_
    refine op_pass rfl (dj := 10) rfl h2b ?_
    refine op_cons rfl (OpV.t (v_pick_t rfl h2b rfl) ?_)
    refine op_cons rfl (OpV.t (v_assign rfl) ?_)
    refine rl_nil ?_
    refine fin_nxt ?_
    refine w_ret ?_
    refine ret_post (.tmp rfl .nil) .nil ?_
    exact pure1 (by simp_all [Tag.less])
  · have h2 := of_decide_eq_false h2b
    refine op_take rfl rfl (dj := 10) rfl h2b (OpV.t (v_fieldAddrI Tag.f0 fd26_0 rfl) ?_)
    refine op_take rfl rfl (dj := 10) rfl h2b (OpV.t (v_loadI ty3 rfl) ?_)
    refine op_take rfl rfl (dj := 10) rfl h2b (OpV.t (v_fieldAddrI Tag.f0 fd26_0 rfl) ?_)
    refine op_take rfl rfl (dj := 10) rfl h2b (OpV.t (v_loadI ty3 rfl) ?_)
    refine op_take rfl rfl (dj := 10) rfl h2b (OpV.t (v_eql rfl rfl) ?_)
    refine op_take rfl rfl (dj := 10) rfl h2b (OpV.t (v_move rfl) ?_)
    refine rl_split (j := 16) rfl (fun h4b => ?_) (fun h4b => ?_)
    · have h4 := of_decide_eq_true h4b
      refine op_take rfl rfl (dj := 16) rfl h4b (OpV.t (v_fieldAddrI Tag.f1 fd26_1 rfl) ?_)
      refine op_take rfl rfl (dj := 16) rfl h4b (OpV.t (v_loadI ty3 rfl) ?_)
      refine op_take rfl rfl (dj := 16) rfl h4b (OpV.t (v_fieldAddrI Tag.f1 fd26_1 rfl) ?_)
      refine op_take rfl rfl (dj := 16) rfl h4b (OpV.t (v_loadI ty3 rfl) ?_)
      refine op_take rfl rfl (dj := 16) rfl h4b (OpV.t (v_lss rfl rfl) ?_)
      refine op_take rfl rfl (dj := 10) rfl h2b (OpV.t (v_pick_t rfl h4b rfl) ?_)
      refine op_cons rfl (OpV.t (v_pick_f rfl h2b rfl) ?_)
      refine op_cons rfl (OpV.t (v_assign rfl) ?_)
      refine rl_nil ?_
      refine fin_nxt ?_
      refine w_ret ?_
      refine ret_post (.tmp rfl .nil) .nil ?_
      exact pure1 (by simp_all [Tag.less])
    · have h4 := of_decide_eq_false h4b
      refine op_pass rfl (dj := 16) rfl h4b ?_
      refine op_pass rfl (dj := 16) rfl h4b ?_
      refine op_pass rfl (dj := 16) rfl h4b ?_
      refine op_pass rfl (dj := 16) rfl h4b ?_
      refine op_pass rfl (dj := 16) rfl h4b ?_
      refine op_take rfl rfl (dj := 10) rfl h2b (OpV.t (v_pick_f rfl h4b rfl) ?_)
      refine op_cons rfl (OpV.t (v_pick_f rfl h2b rfl) ?_)
      refine op_cons rfl (OpV.t (v_assign rfl) ?_)
      refine rl_nil ?_
      refine fin_nxt ?_
      refine w_ret ?_
      refine ret_post (.tmp rfl .nil) .nil ?_
      exact pure1 (by simp_all [Tag.less])

theorem univ_spec (k : Int) : Ctr Try.prog 14 [isv k] [] (pureP (Tag.univ k)) := by
  refine spec_intro Try.func14 rfl (by decide +kernel) (by rfl) fun w0 S0 => ?_
  refine w_know (i := 0) rfl know_int' (fun hi0 => ?_)
  refine w_seq ?_
  refine w_region ?_
  refine op_cons rfl (t_alloc _ ze26 (fun b1 => ?_))
  refine rl_nil ?_
  refine fin_nxt ?_
  refine w_seq ?_
  refine w_region ?_
  refine op_cons rfl (OpV.t (v_assign rfl) ?_)
  refine rl_nil ?_
  refine fin_nxt ?_
  refine w_seq ?_
  refine w_seq ?_
  refine w_region ?_
  refine op_cons rfl (OpV.t (v_move rfl) ?_)
  refine rl_nil ?_
  refine fin_nxt ?_
  refine w_block ?_
  refine w_seq ?_
  refine w_region ?_
  refine op_cons rfl (OpV.t (v_eql rfl rfl) ?_)
  refine op_cons rfl (OpV.t (v_assign rfl) ?_)
  refine rl_nil ?_
  refine fin_nxt ?_
  refine w_cond rfl (fun h3b => ?_) (fun h3b => ?_)
  · have h3 := of_decide_eq_true h3b
    refine w_region ?_
    refine op_cons rfl (OpV.t (v_assign rfl) ?_)
    refine rl_nil ?_
    refine fin_block ?_
    refine fin_nxt ?_
    refine w_seq ?_
    refine w_region ?_
    refine op_cons rfl (OpV.t (v_move rfl) ?_)
    refine op_cons rfl (OpV.t (v_build (α := Tag) rfl bu26 ze26 (.same Tag.f0 fd26_0 rfl (.same Tag.f1 fd26_1 rfl .nil))) ?_)
    refine op_cons rfl (t_store ty26 rfl rfl .here ?_)
    refine rl_nil ?_
    refine fin_nxt ?_
    refine w_ret ?_
    refine ret_post (.cell rfl .here ty26 .nil) .nil ?_
    exact pure1 (by simp_all [Tag.univ, Tag.zero])
  · have h3 := of_decide_eq_false h3b
    refine w_seq ?_
    refine w_region ?_
    refine op_cons rfl (OpV.t (v_eql rfl rfl) ?_)
    refine op_cons rfl (OpV.t (v_assign rfl) ?_)
    refine rl_nil ?_
    refine fin_nxt ?_
    refine w_cond rfl (fun h5b => ?_) (fun h5b => ?_)
    · have h5 := of_decide_eq_true h5b
      refine w_region ?_
      refine op_cons rfl (OpV.t (v_assign rfl) ?_)
      refine rl_nil ?_
      refine fin_block ?_
      refine fin_nxt ?_
      refine w_seq ?_
      refine w_region ?_
      refine op_cons rfl (OpV.t (v_move rfl) ?_)
      refine op_cons rfl (OpV.t (v_build (α := Tag) rfl bu26 ze26 (.same Tag.f0 fd26_0 rfl (.same Tag.f1 fd26_1 rfl .nil))) ?_)
      refine op_cons rfl (t_store ty26 rfl rfl .here ?_)
      refine rl_nil ?_
      refine fin_nxt ?_
      refine w_ret ?_
      refine ret_post (.cell rfl .here ty26 .nil) .nil ?_
      exact pure1 (by simp_all [Tag.univ, Tag.zero])
    · have h5 := of_decide_eq_false h5b
      refine w_seq ?_
      refine w_region ?_
      refine op_cons rfl (OpV.t (v_eql rfl rfl) ?_)
      refine op_cons rfl (OpV.t (v_assign rfl) ?_)
      refine rl_nil ?_
      refine fin_nxt ?_
      refine w_cond rfl (fun h7b => ?_) (fun h7b => ?_)
      · have h7 := of_decide_eq_true h7b
        refine w_region ?_
        refine op_cons rfl (OpV.t (v_assign rfl) ?_)
        refine rl_nil ?_
        refine fin_block ?_
        refine fin_nxt ?_
        refine w_seq ?_
        refine w_region ?_
        refine op_cons rfl (OpV.t (v_move rfl) ?_)
        refine op_cons rfl (OpV.t (v_build (α := Tag) rfl bu26 ze26 (.same Tag.f0 fd26_0 rfl (.same Tag.f1 fd26_1 rfl .nil))) ?_)
        refine op_cons rfl (t_store ty26 rfl rfl .here ?_)
        refine rl_nil ?_
        refine fin_nxt ?_
        refine w_ret ?_
        refine ret_post (.cell rfl .here ty26 .nil) .nil ?_
        exact pure1 (by simp_all [Tag.univ, Tag.zero])
      · have h7 := of_decide_eq_false h7b
        refine w_seq ?_
        refine w_region ?_
        refine op_cons rfl (OpV.t (v_eql rfl rfl) ?_)
        refine op_cons rfl (OpV.t (v_assign rfl) ?_)
        refine rl_nil ?_
        refine fin_nxt ?_
        refine w_cond rfl (fun h9b => ?_) (fun h9b => ?_)
        · have h9 := of_decide_eq_true h9b
          refine w_region ?_
          refine op_cons rfl (OpV.t (v_assign rfl) ?_)
          refine rl_nil ?_
          refine fin_block ?_
          refine fin_nxt ?_
          refine w_seq ?_
          refine w_region ?_
          refine op_cons rfl (OpV.t (v_move rfl) ?_)
          refine op_cons rfl (OpV.t (v_build (α := Tag) rfl bu26 ze26 (.same Tag.f0 fd26_0 rfl (.same Tag.f1 fd26_1 rfl .nil))) ?_)
          refine op_cons rfl (t_store ty26 rfl rfl .here ?_)
          refine rl_nil ?_
          refine fin_nxt ?_
          refine w_ret ?_
          refine ret_post (.cell rfl .here ty26 .nil) .nil ?_
          exact pure1 (by simp_all [Tag.univ, Tag.zero])
        · have h9 := of_decide_eq_false h9b
          refine w_seq ?_
          refine w_region ?_
          refine op_cons rfl (OpV.t (v_eql rfl rfl) ?_)
          refine op_cons rfl (OpV.t (v_assign rfl) ?_)
          refine rl_nil ?_
          refine fin_nxt ?_
          refine w_cond rfl (fun h11b => ?_) (fun h11b => ?_)
          · have h11 := of_decide_eq_true h11b
            refine w_region ?_
            refine op_cons rfl (OpV.t (v_assign rfl) ?_)
            refine rl_nil ?_
            refine fin_block ?_
            refine fin_nxt ?_
            refine w_seq ?_
            refine w_region ?_
            refine op_cons rfl (OpV.t (v_move rfl) ?_)
            refine op_cons rfl (OpV.t (v_build (α := Tag) rfl bu26 ze26 (.same Tag.f0 fd26_0 rfl (.same Tag.f1 fd26_1 rfl .nil))) ?_)
            refine op_cons rfl (t_store ty26 rfl rfl .here ?_)
            refine rl_nil ?_
            refine fin_nxt ?_
            refine w_ret ?_
            refine ret_post (.cell rfl .here ty26 .nil) .nil ?_
            exact pure1 (by simp_all [Tag.univ, Tag.zero])
          · have h11 := of_decide_eq_false h11b
            refine w_seq ?_
            refine w_region ?_
            refine op_cons rfl (OpV.t (v_eql rfl rfl) ?_)
            refine op_cons rfl (OpV.t (v_assign rfl) ?_)
            refine rl_nil ?_
            refine fin_nxt ?_
            refine w_cond rfl (fun h13b => ?_) (fun h13b => ?_)
            · have h13 := of_decide_eq_true h13b
              refine w_region ?_
              refine op_cons rfl (OpV.t (v_assign rfl) ?_)
              refine rl_nil ?_
              refine fin_block ?_
              refine fin_nxt ?_
              refine w_seq ?_
              refine w_region ?_
              refine op_cons rfl (OpV.t (v_move rfl) ?_)
              refine op_cons rfl (OpV.t (v_build (α := Tag) rfl bu26 ze26 (.same Tag.f0 fd26_0 rfl (.same Tag.f1 fd26_1 rfl .nil))) ?_)
              refine op_cons rfl (t_store ty26 rfl rfl .here ?_)
              refine rl_nil ?_
              refine fin_nxt ?_
              refine w_ret ?_
              refine ret_post (.cell rfl .here ty26 .nil) .nil ?_
              exact pure1 (by simp_all [Tag.univ, Tag.zero])
            · have h13 := of_decide_eq_false h13b
              refine w_seq ?_
              refine w_seq ?_
              refine w_region ?_
              refine op_cons rfl (OpV.t (v_eql rfl rfl) ?_)
              refine op_cons rfl (OpV.t (v_assign rfl) ?_)
              refine rl_nil ?_
              refine fin_nxt ?_
              refine w_cond rfl (fun h15b => ?_) (fun h15b => ?_)
              · have h15 := of_decide_eq_true h15b
                refine w_skip ?_
                refine fin_nxt ?_
                refine w_cond_t rfl h15b ?_
                refine w_region ?_
                refine op_cons rfl (OpV.t (v_assign rfl) ?_)
                refine rl_nil ?_
                refine fin_block ?_
                refine fin_nxt ?_
                refine w_seq ?_
                refine w_region ?_
                refine op_cons rfl (OpV.t (v_move rfl) ?_)
                refine op_cons rfl (OpV.t (v_build (α := Tag) rfl bu26 ze26 (.same Tag.f0 fd26_0 rfl (.same Tag.f1 fd26_1 rfl .nil))) ?_)
                refine op_cons rfl (t_store ty26 rfl rfl .here ?_)
                refine rl_nil ?_
                refine fin_nxt ?_
                refine w_ret ?_
                refine ret_post (.cell rfl .here ty26 .nil) .nil ?_
                exact pure1 (by simp_all [Tag.univ, Tag.zero])
              · have h15 := of_decide_eq_false h15b
                refine w_region ?_
                refine op_cons rfl (OpV.t (v_eql rfl rfl) ?_)
                refine op_cons rfl (OpV.t (v_assign rfl) ?_)
                refine rl_nil ?_
                refine fin_nxt ?_
                refine w_cond rfl (fun h17b => ?_) (fun h17b => ?_)
                · have h17 := of_decide_eq_true h17b
                  refine w_region ?_
                  refine op_cons rfl (OpV.t (v_assign rfl) ?_)
                  refine rl_nil ?_
                  refine fin_block ?_
                  refine fin_nxt ?_
                  refine w_seq ?_
                  refine w_region ?_
                  refine op_cons rfl (OpV.t (v_move rfl) ?_)
                  refine op_cons rfl (OpV.t (v_build (α := Tag) rfl bu26 ze26 (.same Tag.f0 fd26_0 rfl (.same Tag.f1 fd26_1 rfl .nil))) ?_)
                  refine op_cons rfl (t_store ty26 rfl rfl .here ?_)
                  refine rl_nil ?_
                  refine fin_nxt ?_
                  refine w_ret ?_
                  refine ret_post (.cell rfl .here ty26 .nil) .nil ?_
                  exact pure1 (by simp_all [Tag.univ, Tag.zero])
                · have h17 := of_decide_eq_false h17b
                  refine w_seq ?_
                  refine w_region ?_
                  refine op_cons rfl (OpV.t (v_eql rfl rfl) ?_)
                  refine op_cons rfl (OpV.t (v_assign rfl) ?_)
                  refine rl_nil ?_
                  refine fin_nxt ?_
                  refine w_cond rfl (fun h19b => ?_) (fun h19b => ?_)
                  · have h19 := of_decide_eq_true h19b
                    refine w_region ?_
                    refine op_cons rfl (OpV.t (v_assign rfl) ?_)
                    refine rl_nil ?_
                    refine fin_block ?_
                    refine fin_nxt ?_
                    refine w_seq ?_
                    refine w_region ?_
                    refine op_cons rfl (OpV.t (v_move rfl) ?_)
                    refine op_cons rfl (OpV.t (v_build (α := Tag) rfl bu26 ze26 (.same Tag.f0 fd26_0 rfl (.same Tag.f1 fd26_1 rfl .nil))) ?_)
                    refine op_cons rfl (t_store ty26 rfl rfl .here ?_)
                    refine rl_nil ?_
                    refine fin_nxt ?_
                    refine w_ret ?_
                    refine ret_post (.cell rfl .here ty26 .nil) .nil ?_
                    exact pure1 (by simp_all [Tag.univ, Tag.zero])
                  · have h19 := of_decide_eq_false h19b
                    refine w_skip ?_
                    refine fin_block ?_
                    refine fin_nxt ?_
                    refine w_seq ?_
                    refine w_region ?_
                    refine op_cons rfl (OpV.t (v_move rfl) ?_)
                    refine op_cons rfl (OpV.t (v_build (α := Tag) rfl bu26 ze26 (.same Tag.f0 fd26_0 rfl (.same Tag.f1 fd26_1 rfl .nil))) ?_)
                    refine op_cons rfl (t_store ty26 rfl rfl .here ?_)
                    refine rl_nil ?_
                    refine fin_nxt ?_
                    refine w_ret ?_
                    refine ret_post (.cell rfl .here ty26 .nil) .nil ?_
                    exact pure1 (by simp_all [Tag.univ, Tag.zero])

theorem runiv_spec (k : Int) : Ctr Try.prog 18 [isv k] [] (pureP (Tag.univ k)) := by
  refine spec_intro Try.func18 rfl (by decide +kernel) (by rfl) fun w0 S0 => ?_
  refine w_know (i := 0) rfl know_int' (fun hi0 => ?_)
  refine w_seq ?_
  refine w_region ?_
  refine op_cons rfl (t_alloc _ ze26 (fun b1 => ?_))
  refine rl_nil ?_
  refine fin_nxt ?_
  refine w_seq ?_
  refine w_seq ?_
  refine w_region ?_
  refine op_cons rfl (OpV.t (v_move rfl) ?_)
  refine rl_nil ?_
  refine fin_nxt ?_
  refine w_block ?_
  refine w_seq ?_
  refine w_region ?_
  refine op_cons rfl (OpV.t (v_eql rfl rfl) ?_)
  refine op_cons rfl (OpV.t (v_assign rfl) ?_)
  refine rl_nil ?_
  refine fin_nxt ?_
  refine w_cond rfl (fun h3b => ?_) (fun h3b => ?_)
  · have h3 := of_decide_eq_true h3b
    refine w_seq ?_
    refine w_region ?_
    refine op_cons rfl (OpV.t (v_build (α := Tag) rfl bu26 ze26 (.same Tag.f1 fd26_1 rfl .nil)) ?_)
    refine op_cons rfl (t_store ty26 rfl rfl .here ?_)
    refine rl_nil ?_
    refine fin_nxt ?_
    refine w_ret ?_
    refine ret_block ?_
    refine ret_nxt ?_
    refine ret_post (.cell rfl .here ty26 .nil) .nil ?_
    exact pure1 (by simp_all [Tag.univ, Tag.zero])
  · have h3 := of_decide_eq_false h3b
    refine w_seq ?_
    refine w_region ?_
    refine op_cons rfl (OpV.t (v_eql rfl rfl) ?_)
    refine op_cons rfl (OpV.t (v_assign rfl) ?_)
    refine rl_nil ?_
    refine fin_nxt ?_
    refine w_cond rfl (fun h5b => ?_) (fun h5b => ?_)
    · have h5 := of_decide_eq_true h5b
      refine w_seq ?_
      refine w_region ?_
      refine op_cons rfl (OpV.t (v_build (α := Tag) rfl bu26 ze26 (.same Tag.f1 fd26_1 rfl .nil)) ?_)
      refine op_cons rfl (t_store ty26 rfl rfl .here ?_)
      refine rl_nil ?_
      refine fin_nxt ?_
      refine w_ret ?_
      refine ret_block ?_
      refine ret_nxt ?_
      refine ret_post (.cell rfl .here ty26 .nil) .nil ?_
      exact pure1 (by simp_all [Tag.univ, Tag.zero])
    · have h5 := of_decide_eq_false h5b
      refine w_seq ?_
      refine w_region ?_
      refine op_cons rfl (OpV.t (v_eql rfl rfl) ?_)
      refine op_cons rfl (OpV.t (v_assign rfl) ?_)
      refine rl_nil ?_
      refine fin_nxt ?_
      refine w_cond rfl (fun h7b => ?_) (fun h7b => ?_)
      · have h7 := of_decide_eq_true h7b
        refine w_seq ?_
        refine w_region ?_
        refine op_cons rfl (OpV.t (v_build (α := Tag) rfl bu26 ze26 (.same Tag.f1 fd26_1 rfl .nil)) ?_)
        refine op_cons rfl (t_store ty26 rfl rfl .here ?_)
        refine rl_nil ?_
        refine fin_nxt ?_
        refine w_ret ?_
        refine ret_block ?_
        refine ret_nxt ?_
        refine ret_post (.cell rfl .here ty26 .nil) .nil ?_
        exact pure1 (by simp_all [Tag.univ, Tag.zero])
      · have h7 := of_decide_eq_false h7b
        refine w_seq ?_
        refine w_region ?_
        refine op_cons rfl (OpV.t (v_eql rfl rfl) ?_)
        refine op_cons rfl (OpV.t (v_assign rfl) ?_)
        refine rl_nil ?_
        refine fin_nxt ?_
        refine w_cond rfl (fun h9b => ?_) (fun h9b => ?_)
        · have h9 := of_decide_eq_true h9b
          refine w_seq ?_
          refine w_region ?_
          refine op_cons rfl (OpV.t (v_build (α := Tag) rfl bu26 ze26 (.same Tag.f1 fd26_1 rfl .nil)) ?_)
          refine op_cons rfl (t_store ty26 rfl rfl .here ?_)
          refine rl_nil ?_
          refine fin_nxt ?_
          refine w_ret ?_
          refine ret_block ?_
          refine ret_nxt ?_
          refine ret_post (.cell rfl .here ty26 .nil) .nil ?_
          exact pure1 (by simp_all [Tag.univ, Tag.zero])
        · have h9 := of_decide_eq_false h9b
          refine w_seq ?_
          refine w_region ?_
          refine op_cons rfl (OpV.t (v_eql rfl rfl) ?_)
          refine op_cons rfl (OpV.t (v_assign rfl) ?_)
          refine rl_nil ?_
          refine fin_nxt ?_
          refine w_cond rfl (fun h11b => ?_) (fun h11b => ?_)
          · have h11 := of_decide_eq_true h11b
            refine w_seq ?_
            refine w_region ?_
            refine op_cons rfl (OpV.t (v_build (α := Tag) rfl bu26 ze26 (.same Tag.f1 fd26_1 rfl .nil)) ?_)
            refine op_cons rfl (t_store ty26 rfl rfl .here ?_)
            refine rl_nil ?_
            refine fin_nxt ?_
            refine w_ret ?_
            refine ret_block ?_
            refine ret_nxt ?_
            refine ret_post (.cell rfl .here ty26 .nil) .nil ?_
            exact pure1 (by simp_all [Tag.univ, Tag.zero])
          · have h11 := of_decide_eq_false h11b
            refine w_seq ?_
            refine w_region ?_
            refine op_cons rfl (OpV.t (v_eql rfl rfl) ?_)
            refine op_cons rfl (OpV.t (v_assign rfl) ?_)
            refine rl_nil ?_
            refine fin_nxt ?_
            refine w_cond rfl (fun h13b => ?_) (fun h13b => ?_)
            · have h13 := of_decide_eq_true h13b
              refine w_seq ?_
              refine w_region ?_
              refine op_cons rfl (OpV.t (v_build (α := Tag) rfl bu26 ze26 (.same Tag.f1 fd26_1 rfl .nil)) ?_)
              refine op_cons rfl (t_store ty26 rfl rfl .here ?_)
              refine rl_nil ?_
              refine fin_nxt ?_
              refine w_ret ?_
              refine ret_block ?_
              refine ret_nxt ?_
              refine ret_post (.cell rfl .here ty26 .nil) .nil ?_
              exact pure1 (by simp_all [Tag.univ, Tag.zero])
            · have h13 := of_decide_eq_false h13b
              refine w_seq ?_
              refine w_seq ?_
              refine w_region ?_
              refine op_cons rfl (OpV.t (v_eql rfl rfl) ?_)
              refine op_cons rfl (OpV.t (v_assign rfl) ?_)
              refine rl_nil ?_
              refine fin_nxt ?_
              refine w_cond rfl (fun h15b => ?_) (fun h15b => ?_)
              · have h15 := of_decide_eq_true h15b
                refine w_skip ?_
                refine fin_nxt ?_
                refine w_cond_t rfl h15b ?_
                refine w_seq ?_
                refine w_region ?_
                refine op_cons rfl (OpV.t (v_build (α := Tag) rfl bu26 ze26 (.same Tag.f1 fd26_1 rfl .nil)) ?_)
                refine op_cons rfl (t_store ty26 rfl rfl .here ?_)
                refine rl_nil ?_
                refine fin_nxt ?_
                refine w_ret ?_
                refine ret_block ?_
                refine ret_nxt ?_
                refine ret_post (.cell rfl .here ty26 .nil) .nil ?_
                exact pure1 (by simp_all [Tag.univ, Tag.zero])
              · have h15 := of_decide_eq_false h15b
                refine w_region ?_
                refine op_cons rfl (OpV.t (v_eql rfl rfl) ?_)
                refine op_cons rfl (OpV.t (v_assign rfl) ?_)
                refine rl_nil ?_
                refine fin_nxt ?_
                refine w_cond rfl (fun h17b => ?_) (fun h17b => ?_)
                · have h17 := of_decide_eq_true h17b
                  refine w_seq ?_
                  refine w_region ?_
                  refine op_cons rfl (OpV.t (v_build (α := Tag) rfl bu26 ze26 (.same Tag.f1 fd26_1 rfl .nil)) ?_)
                  refine op_cons rfl (t_store ty26 rfl rfl .here ?_)
                  refine rl_nil ?_
                  refine fin_nxt ?_
                  refine w_ret ?_
                  refine ret_block ?_
                  refine ret_nxt ?_
                  refine ret_post (.cell rfl .here ty26 .nil) .nil ?_
                  exact pure1 (by simp_all [Tag.univ, Tag.zero])
                · have h17 := of_decide_eq_false h17b
                  refine w_seq ?_
                  refine w_region ?_
                  refine op_cons rfl (OpV.t (v_eql rfl rfl) ?_)
                  refine op_cons rfl (OpV.t (v_assign rfl) ?_)
                  refine rl_nil ?_
                  refine fin_nxt ?_
                  refine w_cond rfl (fun h19b => ?_) (fun h19b => ?_)
                  · have h19 := of_decide_eq_true h19b
                    refine w_seq ?_
                    refine w_region ?_
                    refine op_cons rfl (OpV.t (v_build (α := Tag) rfl bu26 ze26 (.same Tag.f1 fd26_1 rfl .nil)) ?_)
                    refine op_cons rfl (t_store ty26 rfl rfl .here ?_)
                    refine rl_nil ?_
                    refine fin_nxt ?_
                    refine w_ret ?_
                    refine ret_block ?_
                    refine ret_nxt ?_
                    refine ret_post (.cell rfl .here ty26 .nil) .nil ?_
                    exact pure1 (by simp_all [Tag.univ, Tag.zero])
                  · have h19 := of_decide_eq_false h19b
                    refine w_skip ?_
                    refine fin_block ?_
                    refine fin_nxt ?_
                    refine w_seq ?_
                    refine w_region ?_
                    refine op_cons rfl (OpV.t (v_build (α := Tag) rfl bu26 ze26 .nil) ?_)
                    refine op_cons rfl (t_store ty26 rfl rfl .here ?_)
                    refine rl_nil ?_
                    refine fin_nxt ?_
                    refine w_ret ?_
                    refine ret_post (.cell rfl .here ty26 .nil) .nil ?_
                    exact pure1 (by simp_all [Tag.univ, Tag.zero])

theorem plain1_spec (a b : Tag) : Ctr Try.prog 23 [isv a, isv b] [] (pureP (decide (a = b))) := by
  refine spec_intro Try.func23 rfl (by decide +kernel) (by rfl) fun w0 S0 => ?_
  refine w_seq ?_
  refine w_region ?_
  refine op_cons rfl (t_boxI rfl ?_)
  refine op_cons rfl (t_boxI rfl ?_)
  refine op_cons rfl (OpV.t (v_assign rfl) ?_)
  refine rl_nil ?_
  refine fin_nxt ?_
  refine w_seq ?_
  refine w_region ?_
  refine op_cons rfl (OpV.t (v_loadI ty26 rfl) ?_)
  refine op_cons rfl (OpV.t (v_loadI ty26 rfl) ?_)
  refine op_cons rfl (OpV.t (v_eqA eq26 rfl rfl) ?_)
  refine op_cons rfl (OpV.t (v_assign rfl) ?_)
  refine rl_nil ?_
  refine fin_nxt ?_
  refine w_ret ?_
  refine ret_post (.tmp rfl .nil) .nil ?_
  exact pure1 rfl

theorem same_spec (a b : List Tag) : Ctr Try.prog 22 [isv a, isv b, clov 23 []] [] (pureP (decide (a = b))) := by
  refine spec_intro Try.func22 rfl (by decide +kernel) (by rfl) fun w0 S0 => ?_
  refine w_know (i := 0) rfl know_len' (fun hl0 => ?_)
  refine w_know (i := 1) rfl know_len' (fun hl1 => ?_)
  refine w_seq ?_
  refine w_region ?_
  refine op_cons rfl (OpV.t (v_assign rfl) ?_)
  refine rl_nil ?_
  refine fin_nxt ?_
  refine w_seq ?_
  refine w_seq ?_
  refine w_region ?_
  refine op_cons rfl (OpV.t (v_move rfl) ?_)
  refine op_cons rfl (OpV.t (v_len sl22 rfl) ?_)
  refine op_cons rfl (OpV.t (v_move rfl) ?_)
  refine op_cons rfl (OpV.t (v_len sl22 rfl) ?_)
  refine op_cons rfl (OpV.t (v_neq rfl rfl) ?_)
  refine rl_nil ?_
  refine fin_nxt ?_
  refine w_cond rfl (fun h2b => ?_) (fun h2b => ?_)
  · have h2 := dec_nt h2b
    refine w_seq ?_
    refine w_region ?_
    refine op_cons rfl (OpV.t (v_assign rfl) ?_)
    refine rl_nil ?_
    refine fin_nxt ?_
    refine w_ret ?_
    refine ret_nxt ?_
    refine ret_post (.tmp rfl .nil) .nil ?_
    first | exact pure1 (same_len (by assumption)) | exact pure1 (same_ne (k := k) (by omega) (by omega) (by assumption)) | exact pure1 (same_all (k := k) (by omega) (by omega) hI.2.2)
  · have h2 := dec_nf h2b
    refine w_skip ?_
    refine fin_nxt ?_
    refine w_seq ?_
    refine w_seq ?_
    refine w_region ?_
    refine op_cons rfl (OpV.t (v_assign rfl) ?_)
    refine rl_nil ?_
    refine fin_nxt ?_
    refine w_block ?_
    refine w_loopOn (ι := Nat) (fun k => k ≤ a.length ∧ a.length = b.length ∧ a.take k = b.take k) (fun k => [(6, anyv), (7, isv (k : Int))]) (fun _ => []) (fun k => a.length - k) (0) ?_ .nil (mod_cons (j := 6) rfl (fun _ _ _ => trivial) (mod_eq (j := 7) rfl (by first | rfl | omega) mod_nil)) (fun k hI => ?_)
    · exact ⟨Nat.zero_le _, by omega, by simp⟩
    refine w_seq ?_
    refine w_seq ?_
    refine w_region ?_
    refine op_cons rfl (OpV.t (v_move rfl) ?_)
    refine op_cons rfl (OpV.t (v_move rfl) ?_)
    refine op_cons rfl (OpV.t (v_len sl22 rfl) ?_)
    refine op_cons rfl (OpV.t (v_lss rfl rfl) ?_)
    refine rl_nil ?_
    refine fin_nxt ?_
    refine w_cond rfl (fun h4b => ?_) (fun h4b => ?_)
    · have h4 := of_decide_eq_true h4b
      refine w_skip ?_
      refine fin_nxt ?_
      refine w_seq ?_
      refine w_block ?_
      refine w_seq ?_
      refine w_regionD [(0, false), (1, false), (2, false), (3, false), (4, false), (5, false), (6, false), (7, false), (8, false), (9, true), (10, false)] moOrd (by kernel_rfl) ?_
      refine rd_v rfl (v_move rfl) ?_
      refine rd_v rfl (v_move rfl) ?_
      refine rd_v rfl (v_move rfl) ?_
      refine rd_v rfl (v_indexAddr (a[k]'(by omega)) sl22 rfl rfl (by omega) (List.getElem?_eq_getElem (by omega))) ?_
      refine rd_v rfl (v_loadI ty26 rfl) ?_
      refine rd_v rfl (v_move rfl) ?_
      refine rd_v rfl (v_move rfl) ?_
      refine rd_v rfl (v_indexAddr (b[k]'(by omega)) sl22 rfl rfl (by omega) (List.getElem?_eq_getElem (by omega))) ?_
      refine rd_v rfl (v_loadI ty26 rfl) ?_
      refine rd_t rfl rfl (t_callC rfl (.same rfl (.same rfl .nil)) (plain1_spec _ _) .nil (fun R H' hR => ?_))
      revert R H'; rintro _ _ ⟨rfl, rfl⟩
      refine rd_v rfl (v_not rfl) ?_
      refine rd_nil ?_
      refine fin_nxt ?_
      refine w_cond rfl (fun h6b => ?_) (fun h6b => ?_)
      · have h6 := h6b
        refine w_seq ?_
        refine w_region ?_
        refine op_cons rfl (OpV.t (v_assign rfl) ?_)
        refine rl_nil ?_
        refine fin_nxt ?_
        refine w_ret ?_
        refine ret_block ?_
        refine ret_nxt ?_
        refine ret_loop ?_
        refine ret_block ?_
        refine ret_nxt ?_
        refine ret_post (.tmp rfl .nil) .nil ?_
        first | exact pure1 (same_len (by assumption)) | exact pure1 (same_ne (k := k) (by omega) (by omega) (by assumption)) | exact pure1 (same_all (k := k) (by omega) (by omega) hI.2.2)
      · have h6 := h6b
        refine w_skip ?_
        refine fin_block ?_
        refine fin_nxt ?_
        refine w_region ?_
        refine op_cons rfl (OpV.t (v_move rfl) ?_)
        refine op_cons rfl (OpV.t (v_add rfl rfl (in_mk (by omega) (by omega))) ?_)
        refine op_cons rfl (OpV.t (v_assign rfl) ?_)
        refine rl_nil ?_
        refine fin_loopOn (k + 1) ?_ ?_ 20 rfl rfl (mod_cons (j := 6) rfl (fun _ _ _ => trivial) (mod_eq (j := 7) rfl (by first | rfl | omega) mod_nil)) .nil
        · exact ⟨by omega, by omega, take_next (by omega) (by omega) hI.2.2 (by assumption)⟩
        · omega
    · have h4 := of_decide_eq_false h4b
      refine w_exit ?_
      refine exi_nxt ?_
      refine exi_loop ?_
      refine exi_block ?_
      refine fin_nxt ?_
      refine w_seq ?_
      refine w_region ?_
      refine op_cons rfl (OpV.t (v_assign rfl) ?_)
      refine rl_nil ?_
      refine fin_nxt ?_
      refine w_ret ?_
      refine ret_post (.tmp rfl .nil) .nil ?_
      first | exact pure1 (same_len (by assumption)) | exact pure1 (same_ne (k := k) (by omega) (by omega) (by assumption)) | exact pure1 (same_all (k := k) (by omega) (by omega) hI.2.2)

theorem plain_spec (a b : List Tag) : Ctr Try.prog 12 [isv a, isv b] [] (pureP (decide (a = b))) := by
  refine spec_intro Try.func12 rfl (by decide +kernel) (by rfl) fun w0 S0 => ?_
  refine w_know (i := 0) rfl know_len' (fun hl0 => ?_)
  refine w_know (i := 1) rfl know_len' (fun hl1 => ?_)
  refine w_seq ?_
  refine w_region ?_
  refine op_cons rfl (OpV.t (v_assign rfl) ?_)
  refine rl_nil ?_
  refine fin_nxt ?_
  refine w_seq ?_
  refine w_region ?_
  refine op_cons rfl (OpV.t (v_move rfl) ?_)
  refine op_cons rfl (OpV.t (v_move rfl) ?_)
  refine op_cons rfl (t_call (same_spec _ _) (.same rfl (.same rfl (.same rfl .nil))) .nil (fun R H' hR => ?_))
  revert R H'; rintro _ _ ⟨rfl, rfl⟩
  refine op_cons rfl (OpV.t (v_assign rfl) ?_)
  refine rl_nil ?_
  refine fin_nxt ?_
  refine w_ret ?_
  refine ret_post (.tmp rfl .nil) .nil ?_
  exact pure1 rfl

theorem grow_spec (n : Int) (h0 : 0 ≤ n) (h1 : n ≤ 68719476736) : Ctr Try.prog 24 [nilv, isv n] [] (fun R H => ∃ t, R = appv t ([] : List Tag) ∧ H = [tokE t]) := by
  refine spec_intro Try.func24 rfl (by decide +kernel) (by rfl) fun w0 S0 => ?_
  refine w_know (i := 1) rfl know_int' (fun hi1 => ?_)
  refine w_seq ?_
  refine w_region ?_
  refine op_cons rfl (OpV.t (v_assign rfl) ?_)
  refine rl_nil ?_
  refine fin_nxt ?_
  refine w_seq ?_
  refine w_seq ?_
  refine w_region ?_
  refine op_cons rfl (OpV.t (v_move rfl) ?_)
  refine op_cons rfl (OpV.t (v_lss rfl rfl) ?_)
  refine rl_nil ?_
  refine fin_nxt ?_
  refine w_cond rfl (fun h2b => ?_) (fun h2b => ?_)
  · have h2 := of_decide_eq_true h2b
    exfalso; omega
  · have h2 := of_decide_eq_false h2b
    refine w_skip ?_
    refine fin_nxt ?_
    refine w_seq ?_
    refine w_seq ?_
    refine w_region ?_
    refine op_cons rfl (OpV.t (v_move rfl) ?_)
    refine op_cons rfl (OpV.t (v_move rfl) ?_)
    refine op_cons rfl (OpV.t (v_capN sl22 rfl) ?_)
    refine op_cons rfl (OpV.t (v_move rfl) ?_)
    refine op_cons rfl (OpV.t (v_lenN sl22 rfl) ?_)
    refine op_cons rfl (OpV.t (v_sub rfl rfl (in_mk (by omega) (by omega))) ?_)
    refine op_cons rfl (OpV.t (v_sub rfl rfl (in_mk (by omega) (by omega))) ?_)
    refine op_cons rfl (OpV.t (v_assign rfl) ?_)
    refine rl_nil ?_
    refine fin_nxt ?_
    refine w_seq ?_
    refine w_region ?_
    refine op_cons rfl (OpV.t (v_move rfl) ?_)
    refine op_cons rfl (OpV.t (v_gtr rfl rfl) ?_)
    refine rl_nil ?_
    refine fin_nxt ?_
    refine w_cond rfl (fun h4b => ?_) (fun h4b => ?_)
    · have h4 := of_decide_eq_true h4b
      refine w_region ?_
      refine op_cons rfl (OpV.t (v_move rfl) ?_)
      refine op_cons rfl (OpV.t (v_move rfl) ?_)
      refine op_cons rfl (OpV.t (v_capN sl22 rfl) ?_)
      refine op_cons rfl (OpV.t (v_sliceNil sl22 rfl rfl) ?_)
      refine op_cons rfl (OpV.t (v_move rfl) ?_)
      refine op_cons rfl (t_appendZ el22 Try.underlying3 ze26 Try.underlying22 (by kernel_rfl) rfl rfl (by omega) (by omega) (fun b5 cap6 hcap6 => ?_))
      refine op_cons rfl (OpV.t (v_move rfl) ?_)
      refine op_cons rfl (OpV.t (v_lenN sl22 rfl) ?_)
      refine op_cons rfl (OpV.t (v_sliceArr sl22 rfl rfl (by omega) (by omega)) ?_)
      refine op_cons rfl (OpV.t (v_assign rfl) ?_)
      refine rl_nil ?_
      refine fin_nxt ?_
      refine w_seq ?_
      refine w_region ?_
      refine op_cons rfl (OpV.t (v_move rfl) ?_)
      refine op_cons rfl (OpV.t (v_assign rfl) ?_)
      refine rl_nil ?_
      refine fin_nxt ?_
      refine w_commit (α := Tag) (l := List.replicate _ _) (i := 4) .here rfl (by simp) (by simp) (by simp [maxList]) (fun tg => ?_)
      refine w_ret ?_
      refine ret_post (.tmp rfl .nil) (.cons .here .nil) ?_
      exact ⟨_, rfl, rfl⟩
    · have h4 := of_decide_eq_false h4b
      refine w_skip ?_
      refine fin_nxt ?_
      refine w_seq ?_
      refine w_region ?_
      refine op_cons rfl (OpV.t (v_move rfl) ?_)
      refine op_cons rfl (OpV.t (v_assign rfl) ?_)
      refine rl_nil ?_
      refine fin_nxt ?_
      refine w_none ?_
      refine w_imp (slots_one (i := 4) rfl (nilv_appv (α := Tag))) ?_
      refine w_ret ?_
      refine ret_post (.tmp rfl .nil) (.cons .here .nil) ?_
      exact ⟨_, rfl, rfl⟩

theorem concat_spec (ls : List (List Tag)) (hb : ls.flatten.length ≤ 1000000) : Ctr Try.prog 21 [isv ls] [] (pureP ls.flatten) := by
  refine spec_intro Try.func21 rfl (by decide +kernel) (by rfl) fun w0 S0 => ?_
  refine w_know (i := 0) rfl know_len' (fun hl0 => ?_)
  refine w_seq ?_
  refine w_region ?_
  refine op_cons rfl (OpV.t (v_assign rfl) ?_)
  refine rl_nil ?_
  refine fin_nxt ?_
  refine w_seq ?_
  refine w_region ?_
  refine op_cons rfl (OpV.t (v_assign rfl) ?_)
  refine rl_nil ?_
  refine fin_nxt ?_
  refine w_seq ?_
  refine w_seq ?_
  refine w_region ?_
  refine op_cons rfl (OpV.t (v_move rfl) ?_)
  refine op_cons rfl (OpV.t (v_len sl43 rfl) ?_)
  refine op_cons rfl (OpV.t (v_move rfl) ?_)
  refine rl_nil ?_
  refine fin_nxt ?_
  refine w_block ?_
  refine w_loopOn (ι := Nat) (fun k => k ≤ ls.length) (fun k => [(3, isv ((ls.take k).flatten.length : Int)), (11, isv (k : Int))]) (fun _ => []) (fun k => ls.length - k) (0) ?_ .nil (mod_eq (j := 3) rfl (by first | rfl | (have := flat_next (l := ls) (k := k) (by omega); omega)) (mod_eq (j := 11) rfl (by first | rfl | omega) mod_nil)) (fun k hI => ?_)
  · exact Nat.zero_le _
  refine w_seq ?_
  refine w_region ?_
  refine op_cons rfl (OpV.t (v_lss rfl rfl) ?_)
  refine rl_nil ?_
  refine fin_nxt ?_
  refine w_seq ?_
  refine w_cond rfl (fun h2b => ?_) (fun h2b => ?_)
  · have h2 := of_decide_eq_true h2b
    refine w_skip ?_
    refine fin_nxt ?_
    refine w_seq ?_
    refine w_block ?_
    refine w_seq ?_
    refine w_region ?_
    refine op_cons rfl (OpV.t (v_indexAddr (ls[k]'(by omega)) sl43 rfl rfl (by omega) (List.getElem?_eq_getElem (by omega))) ?_)
    refine op_cons rfl (OpV.t (v_loadI ty22 rfl) ?_)
    refine op_cons rfl (OpV.t (v_assign rfl) ?_)
    refine rl_nil ?_
    refine fin_nxt ?_
    refine w_seq ?_
    refine w_region ?_
    refine op_cons rfl (OpV.t (v_move rfl) ?_)
    refine op_cons rfl (OpV.t (v_move rfl) ?_)
    refine op_cons rfl (OpV.t (v_len sl22 rfl) ?_)
    refine op_cons rfl (OpV.t (v_add rfl rfl ((by have := flat_next (l := ls) (k := k) (by omega); have := flat_le (l := ls) (k + 1); exact in_mk (by omega) (by omega)))) ?_)
    refine op_cons rfl (OpV.t (v_assign rfl) ?_)
    refine rl_nil ?_
    refine fin_nxt ?_
    refine w_seq ?_
    refine w_region ?_
    refine op_cons rfl (OpV.t (v_move rfl) ?_)
    refine op_cons rfl (OpV.t (v_lss rfl rfl) ?_)
    refine rl_nil ?_
    refine fin_nxt ?_
    refine w_cond rfl (fun h4b => ?_) (fun h4b => ?_)
    · have h4 := of_decide_eq_true h4b
      exfalso; omega
    · have h4 := of_decide_eq_false h4b
      refine w_skip ?_
      refine fin_block ?_
      refine fin_nxt ?_
      refine w_region ?_
      refine op_cons rfl (OpV.t (v_add rfl rfl (in_mk (by omega) (by omega))) ?_)
      refine op_cons rfl (OpV.t (v_move rfl) ?_)
      refine rl_nil ?_
      refine fin_loopOn (k + 1) ?_ ?_ 15 rfl rfl (mod_eq (j := 3) rfl (by first | rfl | (have := flat_next (l := ls) (k := k) (by omega); omega)) (mod_eq (j := 11) rfl (by first | rfl | omega) mod_nil)) .nil
      · omega
      · omega
  · have h2 := of_decide_eq_false h2b
    refine w_exit ?_
    refine exi_nxt ?_
    refine exi_loop ?_
    refine exi_block ?_
    refine fin_nxt ?_
    refine w_seq ?_
    have hfl := flat_le (l := ls) k
    refine w_region ?_
    refine op_cons rfl (OpV.t (v_move rfl) ?_)
    refine op_cons rfl (t_call (grow_spec _ (by omega) (by omega)) (.same rfl (.same rfl .nil)) .nil (fun R H' hR => ?_))
    revert R H'; rintro _ _ ⟨tg, rfl, rfl⟩
    refine op_cons rfl (OpV.t (v_assign rfl) ?_)
    refine rl_nil ?_
    refine fin_nxt ?_
    refine w_seq ?_
    refine w_seq ?_
    refine w_region ?_
    refine op_cons rfl (OpV.t (v_move rfl) ?_)
    refine op_cons rfl (OpV.t (v_len sl43 rfl) ?_)
    refine op_cons rfl (OpV.t (v_move rfl) ?_)
    refine rl_nil ?_
    refine fin_nxt ?_
    refine w_block ?_
    refine w_loopOn (ι := Nat × Tok) (fun p => p.1 ≤ ls.length) (fun p => [(6, appv p.2 (ls.take p.1).flatten), (27, isv (p.1 : Int))]) (fun p => [tokE p.2]) (fun p => ls.length - p.1) ((0, tg)) ?_ (.cons .here .nil) (mod_app (j := 6) rfl (by first | rfl | exact (flat_app (by omega)).symm) (mod_eq (j := 27) rfl (by first | rfl | (simp; done) | (simp; omega)) mod_nil)) (fun p hI => ?_)
    · exact Nat.zero_le _
    refine w_seq ?_
    refine w_region ?_
    refine op_cons rfl (OpV.t (v_lss rfl rfl) ?_)
    refine rl_nil ?_
    refine fin_nxt ?_
    refine w_seq ?_
    refine w_cond rfl (fun h6b => ?_) (fun h6b => ?_)
    · have h6 := of_decide_eq_true h6b
      refine w_skip ?_
      refine fin_nxt ?_
      refine w_seq ?_
      refine w_block ?_
      refine w_seq ?_
      refine w_region ?_
      refine op_cons rfl (OpV.t (v_indexAddr (ls[p.1]'(by omega)) sl43 rfl rfl (by omega) (List.getElem?_eq_getElem (by omega))) ?_)
      refine op_cons rfl (OpV.t (v_loadI ty22 rfl) ?_)
      refine op_cons rfl (OpV.t (v_assign rfl) ?_)
      refine rl_nil ?_
      refine fin_nxt ?_
      refine w_region ?_
      refine op_cons rfl (OpV.t (v_move rfl) ?_)
      refine op_cons rfl (OpV.t (v_move rfl) ?_)
      refine op_cons rfl (t_append ap22_22 rfl rfl (.inr rfl) (.cons .here .nil) ((by have := flat_next (l := ls) (k := p.1) (by omega); have := flat_le (l := ls) (p.1 + 1); omega)) (fun t7 => ?_))
      refine op_cons rfl (OpV.t (v_assign rfl) ?_)
      refine rl_nil ?_
      refine fin_block ?_
      refine fin_nxt ?_
      refine w_region ?_
      refine op_cons rfl (OpV.t (v_add rfl rfl (in_mk (by omega) (by omega))) ?_)
      refine op_cons rfl (OpV.t (v_move rfl) ?_)
      refine rl_nil ?_
      refine fin_loopOn ((p.1 + 1, t7)) ?_ ?_ 12 rfl rfl (mod_app (j := 6) rfl (by first | rfl | exact (flat_app (by omega)).symm) (mod_eq (j := 27) rfl (by first | rfl | (simp; done) | (simp; omega)) mod_nil)) (.cons .here .nil)
      · simp only; omega
      · simp only; omega
    · have h6 := of_decide_eq_false h6b
      refine w_exit ?_
      refine exi_nxt ?_
      refine exi_loop ?_
      refine exi_block ?_
      refine fin_nxt ?_
      refine w_seq ?_
      refine w_region ?_
      refine op_cons rfl (OpV.t (v_move rfl) ?_)
      refine op_cons rfl (OpV.t (v_assign rfl) ?_)
      refine rl_nil ?_
      refine fin_nxt ?_
      refine w_ret ?_
      refine ret_post (.as rfl appv_isv .nil) .nil ?_
      exact pure1 (flat_all (by omega))

theorem wrap_spec (tags : List Tag) (number mode : Int) (hl : tags.length ≤ 1000) : Ctr Try.prog 10 [isv tags, isv number, isv mode] [] (pureP2 (Tag.wrap tags number mode).1 (Tag.wrap tags number mode).2) := by
  refine spec_intro Try.func10 rfl (by decide +kernel) (by rfl) fun w0 S0 => ?_
  refine w_know (i := 0) rfl know_len' (fun hl0 => ?_)
  refine w_know (i := 1) rfl know_int' (fun hi1 => ?_)
  refine w_know (i := 2) rfl know_int' (fun hi2 => ?_)
  refine w_seq ?_
  refine w_region ?_
  refine op_cons rfl (OpV.t (v_assign rfl) ?_)
  refine op_cons rfl (OpV.t (v_assign rfl) ?_)
  refine rl_nil ?_
  refine fin_nxt ?_
  refine w_seq ?_
  refine w_seq ?_
  refine w_region ?_
  refine op_cons rfl (OpV.t (v_move rfl) ?_)
  refine op_cons rfl (OpV.t (v_lss rfl rfl) ?_)
  refine op_cons rfl (OpV.t (v_move rfl) ?_)
  refine rl_split (j := 10) rfl (fun h2b => ?_) (fun h2b => ?_)
  · have h2 := of_decide_eq_true h2b
    refine op_pass rfl (dj := 10) rfl h2b ?_
    refine op_pass rfl (dj := 10) rfl h2b ?_
    refine op_cons rfl (OpV.t (v_pick_t rfl h2b rfl) ?_)
    refine op_cons rfl (OpV.t (v_move rfl) ?_)
    refine op_pass rfl (dj := 14) rfl rfl ?_
    refine op_pass rfl (dj := 14) rfl rfl ?_
    refine op_pass rfl (dj := 14) rfl rfl ?_
    refine op_passU rfl (dj := 17) rfl ?_
    refine op_passU rfl (dj := 17) rfl ?_
    refine op_passU rfl (dj := 17) rfl ?_
    refine op_pass rfl (dj := 14) rfl rfl ?_
    refine op_cons rfl (OpV.t (v_pick_t rfl rfl rfl) ?_)
    refine rl_nil ?_
    refine fin_nxt ?_
    refine w_cond_t rfl rfl ?_
    refine w_seq ?_
    refine w_region ?_
    refine op_cons rfl (OpV.t (v_assign rfl) ?_)
    refine op_cons rfl (OpV.t (v_assign rfl) ?_)
    refine rl_nil ?_
    refine fin_nxt ?_
    refine w_ret ?_
    refine ret_nxt ?_
    refine ret_post (.as rfl (nilv_isv (α := Tag)) (.tmp rfl .nil)) .nil ?_
    exact pure2 (by first | exact (wrap1 (tags := tags) (number := number) (mode := mode) (by omega)).symm | (rw [wrap2 (tags := tags) (number := number) (mode := mode) (by omega) (by omega)]; simp [Tag.zero]; done) | (rw [wrap3 (tags := tags) (number := number) (mode := mode) (by omega) (by omega)]; simp [Tag.zero]; done)) (by first | exact (wrap1e (tags := tags) (number := number) (mode := mode) (by omega)).symm | exact (wrap2e (tags := tags) (number := number) (mode := mode) (by omega)).symm)
  · have h2 := of_decide_eq_false h2b
    refine op_take rfl rfl (dj := 10) rfl h2b (OpV.t (v_move rfl) ?_)
    refine op_take rfl rfl (dj := 10) rfl h2b (OpV.t (v_gtr rfl rfl) ?_)
    refine op_cons rfl (OpV.t (v_pick_f rfl h2b rfl) ?_)
    refine op_cons rfl (OpV.t (v_move rfl) ?_)
    refine rl_split (j := 14) rfl (fun h4b => ?_) (fun h4b => ?_)
    · have h4 := of_decide_eq_true h4b
      refine op_pass rfl (dj := 14) rfl h4b ?_
      refine op_pass rfl (dj := 14) rfl h4b ?_
      refine op_pass rfl (dj := 14) rfl h4b ?_
      refine op_passU rfl (dj := 17) rfl ?_
      refine op_passU rfl (dj := 17) rfl ?_
      refine op_passU rfl (dj := 17) rfl ?_
      refine op_pass rfl (dj := 14) rfl h4b ?_
      refine op_cons rfl (OpV.t (v_pick_t rfl h4b rfl) ?_)
      refine rl_nil ?_
      refine fin_nxt ?_
      refine w_cond_t rfl rfl ?_
      refine w_seq ?_
      refine w_region ?_
      refine op_cons rfl (OpV.t (v_assign rfl) ?_)
      refine op_cons rfl (OpV.t (v_assign rfl) ?_)
      refine rl_nil ?_
      refine fin_nxt ?_
      refine w_ret ?_
      refine ret_nxt ?_
      refine ret_post (.as rfl (nilv_isv (α := Tag)) (.tmp rfl .nil)) .nil ?_
      exact pure2 (by first | exact (wrap1 (tags := tags) (number := number) (mode := mode) (by omega)).symm | (rw [wrap2 (tags := tags) (number := number) (mode := mode) (by omega) (by omega)]; simp [Tag.zero]; done) | (rw [wrap3 (tags := tags) (number := number) (mode := mode) (by omega) (by omega)]; simp [Tag.zero]; done)) (by first | exact (wrap1e (tags := tags) (number := number) (mode := mode) (by omega)).symm | exact (wrap2e (tags := tags) (number := number) (mode := mode) (by omega)).symm)
    · have h4 := of_decide_eq_false h4b
      refine op_take rfl rfl (dj := 14) rfl h4b (OpV.t (v_move rfl) ?_)
      refine op_take rfl rfl (dj := 14) rfl h4b (OpV.t (v_eql rfl rfl) ?_)
      refine op_take rfl rfl (dj := 14) rfl h4b (OpV.t (v_move rfl) ?_)
      refine rl_split (j := 17) rfl (fun h6b => ?_) (fun h6b => ?_)
      · have h6 := of_decide_eq_true h6b
        refine op_take rfl rfl (dj := 17) rfl h6b (OpV.t (v_move rfl) ?_)
        refine op_take rfl rfl (dj := 17) rfl h6b (OpV.t (v_len sl22 rfl) ?_)
        refine op_take rfl rfl (dj := 17) rfl h6b (OpV.t (v_eql rfl rfl) ?_)
        refine op_take rfl rfl (dj := 14) rfl h4b (OpV.t (v_pick_t rfl h6b rfl) ?_)
        refine op_cons rfl (OpV.t (v_pick_f rfl h4b rfl) ?_)
        refine rl_nil ?_
        refine fin_nxt ?_
        refine w_cond rfl (fun h8b => ?_) (fun h8b => ?_)
        · have h8 := of_decide_eq_true h8b
          refine w_seq ?_
          refine w_region ?_
          refine op_cons rfl (OpV.t (v_assign rfl) ?_)
          refine op_cons rfl (OpV.t (v_assign rfl) ?_)
          refine rl_nil ?_
          refine fin_nxt ?_
          refine w_ret ?_
          refine ret_nxt ?_
          refine ret_post (.as rfl (nilv_isv (α := Tag)) (.tmp rfl .nil)) .nil ?_
          exact pure2 (by first | exact (wrap1 (tags := tags) (number := number) (mode := mode) (by omega)).symm | (rw [wrap2 (tags := tags) (number := number) (mode := mode) (by omega) (by omega)]; simp [Tag.zero]; done) | (rw [wrap3 (tags := tags) (number := number) (mode := mode) (by omega) (by omega)]; simp [Tag.zero]; done)) (by first | exact (wrap1e (tags := tags) (number := number) (mode := mode) (by omega)).symm | exact (wrap2e (tags := tags) (number := number) (mode := mode) (by omega)).symm)
        · have h8 := of_decide_eq_false h8b
          refine w_skip ?_
          refine fin_nxt ?_
          refine w_seq ?_
          refine w_seq ?_
          refine w_region ?_
          refine op_cons rfl (OpV.t (v_move rfl) ?_)
          refine op_cons rfl (OpV.t (v_eql rfl rfl) ?_)
          refine rl_nil ?_
          refine fin_nxt ?_
          refine w_cond rfl (fun h10b => ?_) (fun h10b => ?_)
          · have h10 := of_decide_eq_true h10b
            refine w_region ?_
            refine op_cons rfl (OpV.t (v_move rfl) ?_)
            refine op_cons rfl (OpV.t (v_sliceFrom sl22 rfl rfl (by omega) (by omega)) ?_)
            refine op_cons rfl (OpV.t (v_assign rfl) ?_)
            refine rl_nil ?_
            refine fin_nxt ?_
            refine w_seq ?_
            refine w_region ?_
            refine op_cons rfl (OpV.t (v_move rfl) ?_)
            refine op_cons rfl (OpV.t (v_build (α := Tag) rfl bu26 ze26 (.same Tag.f0 fd26_0 rfl (.same Tag.f1 fd26_1 rfl .nil))) ?_)
            refine op_cons rfl (t_buildSlice el22 (.same rfl .nil) rfl rfl ?_)
            refine op_cons rfl (OpV.t (v_move rfl) ?_)
            refine op_cons rfl (t_buildSlice el43 (.cons rfl appv_isv (.same rfl .nil)) rfl rfl ?_)
            refine op_cons rfl (t_call (concat_spec _ (by first | (simp; done) | (simp; omega))) (.cons rfl appv_isv .nil) .nil (fun R H' hR => ?_))
            revert R H'; rintro _ _ ⟨rfl, rfl⟩
            refine op_cons rfl (OpV.t (v_assign rfl) ?_)
            refine op_cons rfl (OpV.t (v_assign rfl) ?_)
            refine rl_nil ?_
            refine fin_nxt ?_
            refine w_ret ?_
            refine ret_post (.tmp rfl (.tmp rfl .nil)) .nil ?_
            exact pure2 (by first | exact (wrap1 (tags := tags) (number := number) (mode := mode) (by omega)).symm | (rw [wrap2 (tags := tags) (number := number) (mode := mode) (by omega) (by omega)]; simp [Tag.zero]; done) | (rw [wrap3 (tags := tags) (number := number) (mode := mode) (by omega) (by omega)]; simp [Tag.zero]; done)) (by first | exact (wrap1e (tags := tags) (number := number) (mode := mode) (by omega)).symm | exact (wrap2e (tags := tags) (number := number) (mode := mode) (by omega)).symm)
          · have h10 := of_decide_eq_false h10b
            refine w_skip ?_
            refine fin_nxt ?_
            refine w_seq ?_
            refine w_region ?_
            refine op_cons rfl (OpV.t (v_move rfl) ?_)
            refine op_cons rfl (OpV.t (v_build (α := Tag) rfl bu26 ze26 (.same Tag.f0 fd26_0 rfl (.same Tag.f1 fd26_1 rfl .nil))) ?_)
            refine op_cons rfl (t_buildSlice el22 (.same rfl .nil) rfl rfl ?_)
            refine op_cons rfl (OpV.t (v_move rfl) ?_)
            refine op_cons rfl (t_buildSlice el43 (.cons rfl appv_isv (.same rfl .nil)) rfl rfl ?_)
            refine op_cons rfl (t_call (concat_spec _ (by first | (simp; done) | (simp; omega))) (.cons rfl appv_isv .nil) .nil (fun R H' hR => ?_))
            revert R H'; rintro _ _ ⟨rfl, rfl⟩
            refine op_cons rfl (OpV.t (v_assign rfl) ?_)
            refine op_cons rfl (OpV.t (v_assign rfl) ?_)
            refine rl_nil ?_
            refine fin_nxt ?_
            refine w_ret ?_
            refine ret_post (.tmp rfl (.tmp rfl .nil)) .nil ?_
            exact pure2 (by first | exact (wrap1 (tags := tags) (number := number) (mode := mode) (by omega)).symm | (rw [wrap2 (tags := tags) (number := number) (mode := mode) (by omega) (by omega)]; simp [Tag.zero]; done) | (rw [wrap3 (tags := tags) (number := number) (mode := mode) (by omega) (by omega)]; simp [Tag.zero]; done)) (by first | exact (wrap1e (tags := tags) (number := number) (mode := mode) (by omega)).symm | exact (wrap2e (tags := tags) (number := number) (mode := mode) (by omega)).symm)
      · have h6 := of_decide_eq_false h6b
        refine op_pass rfl (dj := 17) rfl h6b ?_
        refine op_pass rfl (dj := 17) rfl h6b ?_
        refine op_pass rfl (dj := 17) rfl h6b ?_
        refine op_take rfl rfl (dj := 14) rfl h4b (OpV.t (v_pick_f rfl h6b rfl) ?_)
        refine op_cons rfl (OpV.t (v_pick_f rfl h4b rfl) ?_)
        refine rl_nil ?_
        refine fin_nxt ?_
        refine w_cond_f rfl rfl ?_
        refine w_skip ?_
        refine fin_nxt ?_
        refine w_seq ?_
        refine w_seq ?_
        refine w_region ?_
        refine op_cons rfl (OpV.t (v_move rfl) ?_)
        refine op_cons rfl (OpV.t (v_eql rfl rfl) ?_)
        refine rl_nil ?_
        refine fin_nxt ?_
        refine w_cond rfl (fun h12b => ?_) (fun h12b => ?_)
        · have h12 := of_decide_eq_true h12b
          refine w_region ?_
          refine op_cons rfl (OpV.t (v_move rfl) ?_)
          refine op_cons rfl (OpV.t (v_sliceFrom sl22 rfl rfl (by omega) (by omega)) ?_)
          refine op_cons rfl (OpV.t (v_assign rfl) ?_)
          refine rl_nil ?_
          refine fin_nxt ?_
          refine w_seq ?_
          refine w_region ?_
          refine op_cons rfl (OpV.t (v_move rfl) ?_)
          refine op_cons rfl (OpV.t (v_build (α := Tag) rfl bu26 ze26 (.same Tag.f0 fd26_0 rfl (.same Tag.f1 fd26_1 rfl .nil))) ?_)
          refine op_cons rfl (t_buildSlice el22 (.same rfl .nil) rfl rfl ?_)
          refine op_cons rfl (OpV.t (v_move rfl) ?_)
          refine op_cons rfl (t_buildSlice el43 (.cons rfl appv_isv (.same rfl .nil)) rfl rfl ?_)
          refine op_cons rfl (t_call (concat_spec _ (by first | (simp; done) | (simp; omega))) (.cons rfl appv_isv .nil) .nil (fun R H' hR => ?_))
          revert R H'; rintro _ _ ⟨rfl, rfl⟩
          refine op_cons rfl (OpV.t (v_assign rfl) ?_)
          refine op_cons rfl (OpV.t (v_assign rfl) ?_)
          refine rl_nil ?_
          refine fin_nxt ?_
          refine w_ret ?_
          refine ret_post (.tmp rfl (.tmp rfl .nil)) .nil ?_
          exact pure2 (by first | exact (wrap1 (tags := tags) (number := number) (mode := mode) (by omega)).symm | (rw [wrap2 (tags := tags) (number := number) (mode := mode) (by omega) (by omega)]; simp [Tag.zero]; done) | (rw [wrap3 (tags := tags) (number := number) (mode := mode) (by omega) (by omega)]; simp [Tag.zero]; done)) (by first | exact (wrap1e (tags := tags) (number := number) (mode := mode) (by omega)).symm | exact (wrap2e (tags := tags) (number := number) (mode := mode) (by omega)).symm)
        · have h12 := of_decide_eq_false h12b
          refine w_skip ?_
          refine fin_nxt ?_
          refine w_seq ?_
          refine w_region ?_
          refine op_cons rfl (OpV.t (v_move rfl) ?_)
          refine op_cons rfl (OpV.t (v_build (α := Tag) rfl bu26 ze26 (.same Tag.f0 fd26_0 rfl (.same Tag.f1 fd26_1 rfl .nil))) ?_)
          refine op_cons rfl (t_buildSlice el22 (.same rfl .nil) rfl rfl ?_)
          refine op_cons rfl (OpV.t (v_move rfl) ?_)
          refine op_cons rfl (t_buildSlice el43 (.cons rfl appv_isv (.same rfl .nil)) rfl rfl ?_)
          refine op_cons rfl (t_call (concat_spec _ (by first | (simp; done) | (simp; omega))) (.cons rfl appv_isv .nil) .nil (fun R H' hR => ?_))
          revert R H'; rintro _ _ ⟨rfl, rfl⟩
          refine op_cons rfl (OpV.t (v_assign rfl) ?_)
          refine op_cons rfl (OpV.t (v_assign rfl) ?_)
          refine rl_nil ?_
          refine fin_nxt ?_
          refine w_ret ?_
          refine ret_post (.tmp rfl (.tmp rfl .nil)) .nil ?_
          exact pure2 (by first | exact (wrap1 (tags := tags) (number := number) (mode := mode) (by omega)).symm | (rw [wrap2 (tags := tags) (number := number) (mode := mode) (by omega) (by omega)]; simp [Tag.zero]; done) | (rw [wrap3 (tags := tags) (number := number) (mode := mode) (by omega) (by omega)]; simp [Tag.zero]; done)) (by first | exact (wrap1e (tags := tags) (number := number) (mode := mode) (by omega)).symm | exact (wrap2e (tags := tags) (number := number) (mode := mode) (by omega)).symm)

theorem rwrap_spec (tags : List Tag) (number mode : Int) (hl : tags.length ≤ 1000) : Ctr Try.prog 11 [isv tags, isv number, isv mode] [] (pureP2 (Tag.wrap tags number mode).1 (Tag.wrap tags number mode).2) := by
  refine spec_intro Try.func11 rfl (by decide +kernel) (by rfl) fun w0 S0 => ?_
  refine w_know (i := 0) rfl know_len' (fun hl0 => ?_)
  refine w_know (i := 1) rfl know_int' (fun hi1 => ?_)
  refine w_know (i := 2) rfl know_int' (fun hi2 => ?_)
  refine w_seq ?_
  refine w_region ?_
  refine op_cons rfl (OpV.t (v_assign rfl) ?_)
  refine op_cons rfl (OpV.t (v_assign rfl) ?_)
  refine rl_nil ?_
  refine fin_nxt ?_
  refine w_seq ?_
  refine w_seq ?_
  refine w_region ?_
  refine op_cons rfl (OpV.t (v_move rfl) ?_)
  refine op_cons rfl (OpV.t (v_lss rfl rfl) ?_)
  refine op_cons rfl (OpV.t (v_move rfl) ?_)
  refine rl_split (j := 11) rfl (fun h2b => ?_) (fun h2b => ?_)
  · have h2 := of_decide_eq_true h2b
    refine op_pass rfl (dj := 11) rfl h2b ?_
    refine op_pass rfl (dj := 11) rfl h2b ?_
    refine op_cons rfl (OpV.t (v_pick_t rfl h2b rfl) ?_)
    refine op_cons rfl (OpV.t (v_move rfl) ?_)
    refine op_pass rfl (dj := 15) rfl rfl ?_
    refine op_pass rfl (dj := 15) rfl rfl ?_
    refine op_pass rfl (dj := 15) rfl rfl ?_
    refine op_passU rfl (dj := 18) rfl ?_
    refine op_passU rfl (dj := 18) rfl ?_
    refine op_passU rfl (dj := 18) rfl ?_
    refine op_pass rfl (dj := 15) rfl rfl ?_
    refine op_cons rfl (OpV.t (v_pick_t rfl rfl rfl) ?_)
    refine rl_nil ?_
    refine fin_nxt ?_
    refine w_cond_t rfl rfl ?_
    refine w_seq ?_
    refine w_region ?_
    refine op_cons rfl (OpV.t (v_assign rfl) ?_)
    refine op_cons rfl (OpV.t (v_assign rfl) ?_)
    refine rl_nil ?_
    refine fin_nxt ?_
    refine w_ret ?_
    refine ret_nxt ?_
    refine ret_post (.as rfl (nilv_isv (α := Tag)) (.tmp rfl .nil)) .nil ?_
    exact pure2 (by first | exact (wrap1 (tags := tags) (number := number) (mode := mode) (by omega)).symm | (rw [wrap2 (tags := tags) (number := number) (mode := mode) (by omega) (by omega)]; simp [Tag.zero]; done) | (rw [wrap3 (tags := tags) (number := number) (mode := mode) (by omega) (by omega)]; simp [Tag.zero]; done)) (by first | exact (wrap1e (tags := tags) (number := number) (mode := mode) (by omega)).symm | exact (wrap2e (tags := tags) (number := number) (mode := mode) (by omega)).symm)
  · have h2 := of_decide_eq_false h2b
    refine op_take rfl rfl (dj := 11) rfl h2b (OpV.t (v_move rfl) ?_)
    refine op_take rfl rfl (dj := 11) rfl h2b (OpV.t (v_gtr rfl rfl) ?_)
    refine op_cons rfl (OpV.t (v_pick_f rfl h2b rfl) ?_)
    refine op_cons rfl (OpV.t (v_move rfl) ?_)
    refine rl_split (j := 15) rfl (fun h4b => ?_) (fun h4b => ?_)
    · have h4 := of_decide_eq_true h4b
      refine op_pass rfl (dj := 15) rfl h4b ?_
      refine op_pass rfl (dj := 15) rfl h4b ?_
      refine op_pass rfl (dj := 15) rfl h4b ?_
      refine op_passU rfl (dj := 18) rfl ?_
      refine op_passU rfl (dj := 18) rfl ?_
      refine op_passU rfl (dj := 18) rfl ?_
      refine op_pass rfl (dj := 15) rfl h4b ?_
      refine op_cons rfl (OpV.t (v_pick_t rfl h4b rfl) ?_)
      refine rl_nil ?_
      refine fin_nxt ?_
      refine w_cond_t rfl rfl ?_
      refine w_seq ?_
      refine w_region ?_
      refine op_cons rfl (OpV.t (v_assign rfl) ?_)
      refine op_cons rfl (OpV.t (v_assign rfl) ?_)
      refine rl_nil ?_
      refine fin_nxt ?_
      refine w_ret ?_
      refine ret_nxt ?_
      refine ret_post (.as rfl (nilv_isv (α := Tag)) (.tmp rfl .nil)) .nil ?_
      exact pure2 (by first | exact (wrap1 (tags := tags) (number := number) (mode := mode) (by omega)).symm | (rw [wrap2 (tags := tags) (number := number) (mode := mode) (by omega) (by omega)]; simp [Tag.zero]; done) | (rw [wrap3 (tags := tags) (number := number) (mode := mode) (by omega) (by omega)]; simp [Tag.zero]; done)) (by first | exact (wrap1e (tags := tags) (number := number) (mode := mode) (by omega)).symm | exact (wrap2e (tags := tags) (number := number) (mode := mode) (by omega)).symm)
    · have h4 := of_decide_eq_false h4b
      refine op_take rfl rfl (dj := 15) rfl h4b (OpV.t (v_move rfl) ?_)
      refine op_take rfl rfl (dj := 15) rfl h4b (OpV.t (v_eql rfl rfl) ?_)
      refine op_take rfl rfl (dj := 15) rfl h4b (OpV.t (v_move rfl) ?_)
      refine rl_split (j := 18) rfl (fun h6b => ?_) (fun h6b => ?_)
      · have h6 := of_decide_eq_true h6b
        refine op_take rfl rfl (dj := 18) rfl h6b (OpV.t (v_move rfl) ?_)
        refine op_take rfl rfl (dj := 18) rfl h6b (OpV.t (v_len sl22 rfl) ?_)
        refine op_take rfl rfl (dj := 18) rfl h6b (OpV.t (v_eql rfl rfl) ?_)
        refine op_take rfl rfl (dj := 15) rfl h4b (OpV.t (v_pick_t rfl h6b rfl) ?_)
        refine op_cons rfl (OpV.t (v_pick_f rfl h4b rfl) ?_)
        refine rl_nil ?_
        refine fin_nxt ?_
        refine w_cond rfl (fun h8b => ?_) (fun h8b => ?_)
        · have h8 := of_decide_eq_true h8b
          refine w_seq ?_
          refine w_region ?_
          refine op_cons rfl (OpV.t (v_assign rfl) ?_)
          refine op_cons rfl (OpV.t (v_assign rfl) ?_)
          refine rl_nil ?_
          refine fin_nxt ?_
          refine w_ret ?_
          refine ret_nxt ?_
          refine ret_post (.as rfl (nilv_isv (α := Tag)) (.tmp rfl .nil)) .nil ?_
          exact pure2 (by first | exact (wrap1 (tags := tags) (number := number) (mode := mode) (by omega)).symm | (rw [wrap2 (tags := tags) (number := number) (mode := mode) (by omega) (by omega)]; simp [Tag.zero]; done) | (rw [wrap3 (tags := tags) (number := number) (mode := mode) (by omega) (by omega)]; simp [Tag.zero]; done)) (by first | exact (wrap1e (tags := tags) (number := number) (mode := mode) (by omega)).symm | exact (wrap2e (tags := tags) (number := number) (mode := mode) (by omega)).symm)
        · have h8 := of_decide_eq_false h8b
          refine w_skip ?_
          refine fin_nxt ?_
          refine w_seq ?_
          refine w_region ?_
          refine op_cons rfl (OpV.t (v_move rfl) ?_)
          refine op_cons rfl (OpV.t (v_build (α := Tag) rfl bu26 ze26 (.same Tag.f0 fd26_0 rfl (.same Tag.f1 fd26_1 rfl .nil))) ?_)
          refine op_cons rfl (t_buildSlice el22 (.same rfl .nil) rfl rfl ?_)
          refine op_cons rfl (OpV.t (v_assign rfl) ?_)
          refine rl_nil ?_
          refine fin_nxt ?_
          refine w_seq ?_
          refine w_seq ?_
          refine w_region ?_
          refine op_cons rfl (OpV.t (v_move rfl) ?_)
          refine op_cons rfl (OpV.t (v_eql rfl rfl) ?_)
          refine rl_nil ?_
          refine fin_nxt ?_
          refine w_cond rfl (fun h10b => ?_) (fun h10b => ?_)
          · have h10 := of_decide_eq_true h10b
            refine w_seq ?_
            refine w_region ?_
            refine op_cons rfl (OpV.t (v_move rfl) ?_)
            refine op_cons rfl (OpV.t (v_move rfl) ?_)
            refine op_cons rfl (OpV.t (v_sliceFrom sl22 rfl rfl (by omega) (by omega)) ?_)
            refine op_cons rfl (t_append ap22_22 rfl rfl (.inl ⟨rfl, rfl⟩) .nil (by simp; omega) (fun t11 => ?_))
            refine op_cons rfl (OpV.t (v_assign rfl) ?_)
            refine op_cons rfl (OpV.t (v_assign rfl) ?_)
            refine rl_nil ?_
            refine fin_nxt ?_
            refine w_ret ?_
            refine ret_nxt ?_
            refine ret_post (.as rfl appv_isv (.tmp rfl .nil)) .nil ?_
            exact pure2 (by first | exact (wrap1 (tags := tags) (number := number) (mode := mode) (by omega)).symm | (rw [wrap2 (tags := tags) (number := number) (mode := mode) (by omega) (by omega)]; simp [Tag.zero]; done) | (rw [wrap3 (tags := tags) (number := number) (mode := mode) (by omega) (by omega)]; simp [Tag.zero]; done)) (by first | exact (wrap1e (tags := tags) (number := number) (mode := mode) (by omega)).symm | exact (wrap2e (tags := tags) (number := number) (mode := mode) (by omega)).symm)
          · have h10 := of_decide_eq_false h10b
            refine w_skip ?_
            refine fin_nxt ?_
            refine w_seq ?_
            refine w_region ?_
            refine op_cons rfl (OpV.t (v_move rfl) ?_)
            refine op_cons rfl (OpV.t (v_move rfl) ?_)
            refine op_cons rfl (t_append ap22_22 rfl rfl (.inl ⟨rfl, rfl⟩) .nil (by simp; omega) (fun t12 => ?_))
            refine op_cons rfl (OpV.t (v_assign rfl) ?_)
            refine op_cons rfl (OpV.t (v_assign rfl) ?_)
            refine rl_nil ?_
            refine fin_nxt ?_
            refine w_ret ?_
            refine ret_post (.as rfl appv_isv (.tmp rfl .nil)) .nil ?_
            exact pure2 (by first | exact (wrap1 (tags := tags) (number := number) (mode := mode) (by omega)).symm | (rw [wrap2 (tags := tags) (number := number) (mode := mode) (by omega) (by omega)]; simp [Tag.zero]; done) | (rw [wrap3 (tags := tags) (number := number) (mode := mode) (by omega) (by omega)]; simp [Tag.zero]; done)) (by first | exact (wrap1e (tags := tags) (number := number) (mode := mode) (by omega)).symm | exact (wrap2e (tags := tags) (number := number) (mode := mode) (by omega)).symm)
      · have h6 := of_decide_eq_false h6b
        refine op_pass rfl (dj := 18) rfl h6b ?_
        refine op_pass rfl (dj := 18) rfl h6b ?_
        refine op_pass rfl (dj := 18) rfl h6b ?_
        refine op_take rfl rfl (dj := 15) rfl h4b (OpV.t (v_pick_f rfl h6b rfl) ?_)
        refine op_cons rfl (OpV.t (v_pick_f rfl h4b rfl) ?_)
        refine rl_nil ?_
        refine fin_nxt ?_
        refine w_cond_f rfl rfl ?_
        refine w_skip ?_
        refine fin_nxt ?_
        refine w_seq ?_
        refine w_region ?_
        refine op_cons rfl (OpV.t (v_move rfl) ?_)
        refine op_cons rfl (OpV.t (v_build (α := Tag) rfl bu26 ze26 (.same Tag.f0 fd26_0 rfl (.same Tag.f1 fd26_1 rfl .nil))) ?_)
        refine op_cons rfl (t_buildSlice el22 (.same rfl .nil) rfl rfl ?_)
        refine op_cons rfl (OpV.t (v_assign rfl) ?_)
        refine rl_nil ?_
        refine fin_nxt ?_
        refine w_seq ?_
        refine w_seq ?_
        refine w_region ?_
        refine op_cons rfl (OpV.t (v_move rfl) ?_)
        refine op_cons rfl (OpV.t (v_eql rfl rfl) ?_)
        refine rl_nil ?_
        refine fin_nxt ?_
        refine w_cond rfl (fun h14b => ?_) (fun h14b => ?_)
        · have h14 := of_decide_eq_true h14b
          refine w_seq ?_
          refine w_region ?_
          refine op_cons rfl (OpV.t (v_move rfl) ?_)
          refine op_cons rfl (OpV.t (v_move rfl) ?_)
          refine op_cons rfl (OpV.t (v_sliceFrom sl22 rfl rfl (by omega) (by omega)) ?_)
          refine op_cons rfl (t_append ap22_22 rfl rfl (.inl ⟨rfl, rfl⟩) .nil (by simp; omega) (fun t15 => ?_))
          refine op_cons rfl (OpV.t (v_assign rfl) ?_)
          refine op_cons rfl (OpV.t (v_assign rfl) ?_)
          refine rl_nil ?_
          refine fin_nxt ?_
          refine w_ret ?_
          refine ret_nxt ?_
          refine ret_post (.as rfl appv_isv (.tmp rfl .nil)) .nil ?_
          exact pure2 (by first | exact (wrap1 (tags := tags) (number := number) (mode := mode) (by omega)).symm | (rw [wrap2 (tags := tags) (number := number) (mode := mode) (by omega) (by omega)]; simp [Tag.zero]; done) | (rw [wrap3 (tags := tags) (number := number) (mode := mode) (by omega) (by omega)]; simp [Tag.zero]; done)) (by first | exact (wrap1e (tags := tags) (number := number) (mode := mode) (by omega)).symm | exact (wrap2e (tags := tags) (number := number) (mode := mode) (by omega)).symm)
        · have h14 := of_decide_eq_false h14b
          refine w_skip ?_
          refine fin_nxt ?_
          refine w_seq ?_
          refine w_region ?_
          refine op_cons rfl (OpV.t (v_move rfl) ?_)
          refine op_cons rfl (OpV.t (v_move rfl) ?_)
          refine op_cons rfl (t_append ap22_22 rfl rfl (.inl ⟨rfl, rfl⟩) .nil (by simp; omega) (fun t16 => ?_))
          refine op_cons rfl (OpV.t (v_assign rfl) ?_)
          refine op_cons rfl (OpV.t (v_assign rfl) ?_)
          refine rl_nil ?_
          refine fin_nxt ?_
          refine w_ret ?_
          refine ret_post (.as rfl appv_isv (.tmp rfl .nil)) .nil ?_
          exact pure2 (by first | exact (wrap1 (tags := tags) (number := number) (mode := mode) (by omega)).symm | (rw [wrap2 (tags := tags) (number := number) (mode := mode) (by omega) (by omega)]; simp [Tag.zero]; done) | (rw [wrap3 (tags := tags) (number := number) (mode := mode) (by omega) (by omega)]; simp [Tag.zero]; done)) (by first | exact (wrap1e (tags := tags) (number := number) (mode := mode) (by omega)).symm | exact (wrap2e (tags := tags) (number := number) (mode := mode) (by omega)).symm)

theorem awake_spec  : Ctr Try.prog 8 [] [] (pureP true) := by
  refine spec_intro Try.func8 rfl (by decide +kernel) (by rfl) fun w0 S0 => ?_
  refine w_seq ?_
  refine w_region ?_
  refine op_cons rfl (OpV.t (v_assign rfl) ?_)
  refine rl_nil ?_
  refine fin_nxt ?_
  refine w_seq ?_
  refine w_region ?_
  refine op_cons rfl (OpV.t (v_build (α := Tag) rfl bu26 ze26 (.same Tag.f1 fd26_1 rfl .nil)) ?_)
  refine op_cons rfl (t_buildSlice el22 (.same rfl .nil) rfl rfl ?_)
  refine op_cons rfl (t_call (wrap_spec _ _ _ (by first | (simp; done) | omega)) (.cons rfl appv_isv (.same rfl (.same rfl .nil))) .nil (fun R H' hR => ?_))
  revert R H'; rintro _ _ ⟨rfl, rfl⟩
  refine op_cons rfl (OpV.t (v_move rfl) ?_)
  refine op_cons rfl (OpV.t (v_extract rfl rfl) ?_)
  refine op_cons rfl (OpV.t (v_extract rfl rfl) ?_)
  refine op_cons rfl (OpV.t (v_assign rfl) ?_)
  refine op_cons rfl (OpV.t (v_assign rfl) ?_)
  refine rl_nil ?_
  refine fin_nxt ?_
  refine w_seq ?_
  refine w_region ?_
  refine op_cons rfl (OpV.t (v_move rfl) ?_)
  refine op_cons rfl (OpV.t (v_eql rfl rfl) ?_)
  refine op_cons rfl (OpV.t (v_move rfl) ?_)
  refine op_take rfl rfl (dj := 11) rfl (by decide) (OpV.t (v_move rfl) ?_)
  refine op_take rfl rfl (dj := 11) rfl (by decide) (OpV.t (v_len sl22 rfl) ?_)
  refine op_take rfl rfl (dj := 11) rfl (by decide) (OpV.t (v_eql rfl rfl) ?_)
  refine op_cons rfl (OpV.t (v_pick_t rfl (by decide) rfl) ?_)
  refine op_cons rfl (OpV.t (v_move rfl) ?_)
  refine op_take rfl rfl (dj := 16) rfl (by decide) (OpV.t (v_move rfl) ?_)
  refine op_take rfl rfl (dj := 16) rfl (by decide) (OpV.t (v_indexAddr (⟨2, 3⟩) sl22 rfl rfl (by omega) (by decide)) ?_)
  refine op_take rfl rfl (dj := 16) rfl (by decide) (OpV.t (v_loadI ty26 rfl) ?_)
  refine op_take rfl rfl (dj := 16) rfl (by decide) (OpV.t (v_build (α := Tag) rfl bu26 ze26 (.same Tag.f0 fd26_0 rfl (.same Tag.f1 fd26_1 rfl .nil))) ?_)
  refine op_take rfl rfl (dj := 16) rfl (by decide) (OpV.t (v_eqA eq26 rfl rfl) ?_)
  refine op_cons rfl (OpV.t (v_pick_t rfl (by decide) rfl) ?_)
  refine op_cons rfl (OpV.t (v_move rfl) ?_)
  refine op_take rfl rfl (dj := 23) rfl (by decide) (t_call (univ_spec _) (.same rfl .nil) .nil (fun R H' hR => ?_))
  revert R H'; rintro _ _ ⟨rfl, rfl⟩
  refine op_take rfl rfl (dj := 23) rfl (by decide) (OpV.t (v_field Tag.f1 rfl fd26_1 rfl) ?_)
  refine op_take rfl rfl (dj := 23) rfl (by decide) (OpV.t (v_eql rfl rfl) ?_)
  refine op_cons rfl (OpV.t (v_pick_t rfl (by decide) rfl) ?_)
  refine op_cons rfl (OpV.t (v_assign rfl) ?_)
  refine rl_nil ?_
  refine fin_nxt ?_
  refine w_ret ?_
  refine ret_post (.tmp rfl .nil) .nil ?_
  exact pure1 (by decide)
end Go.Proofs.Ytlngkmmajaaloaa
