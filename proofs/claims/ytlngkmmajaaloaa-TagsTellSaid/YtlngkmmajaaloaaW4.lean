/- Walks of In and Distinct. -/
import Derived.Test.YtlngkmmajaaloaaW1
namespace Go.Proofs.Ytlngkmmajaaloaa
open Go.Sy
theorem in_spec (l : List Tag) (x : Tag) : Ctr Try.prog 16 [isv l, isv x] [] (pureP (decide (x ∈ l))) := by
  refine spec_intro Try.func16 rfl (by decide +kernel) (by rfl) fun w0 S0 => ?_
  refine w_know (i := 0) rfl know_len' (fun hl0 => ?_)
  refine w_seq ?_
  refine w_region ?_
  refine op_cons rfl (t_boxI rfl ?_)
  refine op_cons rfl (OpV.t (v_assign rfl) ?_)
  refine rl_nil ?_
  refine fin_nxt ?_
  refine w_seq ?_
  refine w_seq ?_
  refine w_region ?_
  refine op_cons rfl (OpV.t (v_assign rfl) ?_)
  refine rl_nil ?_
  refine fin_nxt ?_
  refine w_block ?_
  refine w_loopOn (ι := Nat) (fun k => k ≤ l.length ∧ x ∉ l.take k) (fun k => [(4, anyv), (5, isv (k : Int))]) (fun _ => []) (fun k => l.length - k) (0) ?_ .nil (mod_cons (j := 4) rfl (fun _ _ _ => trivial) (mod_eq (j := 5) rfl (by first | rfl | omega) mod_nil)) (fun k hI => ?_)
  · exact ⟨Nat.zero_le _, by simp⟩
  refine w_seq ?_
  refine w_seq ?_
  refine w_region ?_
  refine op_cons rfl (OpV.t (v_move rfl) ?_)
  refine op_cons rfl (OpV.t (v_move rfl) ?_)
  refine op_cons rfl (OpV.t (v_len sl22 rfl) ?_)
  refine op_cons rfl (OpV.t (v_lss rfl rfl) ?_)
  refine rl_nil ?_
  refine fin_nxt ?_
  refine w_cond rfl (fun h2b => ?_) (fun h2b => ?_)
  · have h2 := of_decide_eq_true h2b
    refine w_skip ?_
    refine fin_nxt ?_
    refine w_seq ?_
    refine w_block ?_
    refine w_seq ?_
    refine w_regionD [(0, false), (1, false), (2, false), (3, false), (4, false), (5, false)] moOrd (by kernel_rfl) ?_
    refine rd_v rfl (v_move rfl) ?_
    refine rd_v rfl (v_move rfl) ?_
    refine rd_v rfl (v_indexAddr (l[k]'(by omega)) sl22 rfl rfl (by omega) (List.getElem?_eq_getElem (by omega))) ?_
    refine rd_v rfl (v_loadI ty26 rfl) ?_
    refine rd_v rfl (v_loadI ty26 rfl) ?_
    refine rd_v rfl (v_eqA eq26 rfl rfl) ?_
    refine rd_nil ?_
    refine fin_nxt ?_
    refine w_cond rfl (fun h4b => ?_) (fun h4b => ?_)
    · have h4 := of_decide_eq_true h4b
      refine w_seq ?_
      refine w_region ?_
      refine op_cons rfl (OpV.t (v_assign rfl) ?_)
      refine rl_nil ?_
      refine fin_nxt ?_
      refine w_ret ?_
      refine ret_block ?_
      refine ret_nxt ?_
      refine ret_loop ?_
      refine ret_block ?_
      refine ret_nxt ?_
      refine ret_post (.tmp rfl .nil) .nil ?_
      first | exact pure1 (in_hit (k := k) (by omega) (by assumption)) | exact pure1 (in_all (by omega) hI.2)
    · have h4 := of_decide_eq_false h4b
      refine w_skip ?_
      refine fin_block ?_
      refine fin_nxt ?_
      refine w_region ?_
      refine op_cons rfl (OpV.t (v_move rfl) ?_)
      refine op_cons rfl (OpV.t (v_add rfl rfl (in_mk (by omega) (by omega))) ?_)
      refine op_cons rfl (OpV.t (v_assign rfl) ?_)
      refine rl_nil ?_
      refine fin_loopOn (k + 1) ?_ ?_ 15 rfl rfl (mod_cons (j := 4) rfl (fun _ _ _ => trivial) (mod_eq (j := 5) rfl (by first | rfl | omega) mod_nil)) .nil
      · exact ⟨by omega, in_next (by omega) hI.2 (by assumption)⟩
      · omega
  · have h2 := of_decide_eq_false h2b
    refine w_exit ?_
    refine exi_nxt ?_
    refine exi_loop ?_
    refine exi_block ?_
    refine fin_nxt ?_
    refine w_seq ?_
    refine w_region ?_
    refine op_cons rfl (OpV.t (v_assign rfl) ?_)
    refine rl_nil ?_
    refine fin_nxt ?_
    refine w_ret ?_
    refine ret_post (.tmp rfl .nil) .nil ?_
    first | exact pure1 (in_hit (k := k) (by omega) (by assumption)) | exact pure1 (in_all (by omega) hI.2)

theorem dist_spec (sets : List (List Tag)) : Ctr Try.prog 17 [isv sets] [] (pureP (Tag.apart sets)) := by
  refine spec_intro Try.func17 rfl (by decide +kernel) (by rfl) fun w0 S0 => ?_
  refine w_know (i := 0) rfl know_len' (fun hl0 => ?_)
  refine w_seq ?_
  refine w_region ?_
  refine op_cons rfl (OpV.t (v_assign rfl) ?_)
  refine rl_nil ?_
  refine fin_nxt ?_
  refine w_seq ?_
  refine w_region ?_
  refine op_cons rfl (t_makeMap Tag Int (fun b1 => ?_))
  refine op_cons rfl (OpV.t (v_assign rfl) ?_)
  refine rl_nil ?_
  refine fin_nxt ?_
  refine w_seq ?_
  refine w_seq ?_
  refine w_region ?_
  refine op_cons rfl (OpV.t (v_move rfl) ?_)
  refine op_cons rfl (OpV.t (v_len sl43 rfl) ?_)
  refine op_cons rfl (OpV.t (v_move rfl) ?_)
  refine rl_nil ?_
  refine fin_nxt ?_
  refine w_block ?_
  refine w_loopOn (ι := Nat × List (Tag × Int)) (fun p => p.1 ≤ sets.length ∧ p.2.map Prod.fst = (sets.take p.1).flatten ∧ (p.2.map Prod.fst).Nodup) (fun p => [(2, anyv), (13, isv (p.1 : Int))]) (fun p => [mapE b1 p.2]) (fun p => sets.length - p.1) ((0, [])) ?_ (.cons .here .nil) (mod_cons (j := 2) rfl (fun _ _ _ => trivial) (mod_eq (j := 13) rfl (by first | rfl | (simp; done) | (simp; omega)) mod_nil)) (fun p hI => ?_)
  · exact ⟨Nat.zero_le _, by simp, by simp⟩
  refine w_seq ?_
  refine w_region ?_
  refine op_cons rfl (OpV.t (v_lss rfl rfl) ?_)
  refine rl_nil ?_
  refine fin_nxt ?_
  refine w_seq ?_
  refine w_cond rfl (fun h3b => ?_) (fun h3b => ?_)
  · have h3 := of_decide_eq_true h3b
    have hk : p.1 < sets.length := by have hh := h3; omega
    refine w_skip ?_
    refine fin_nxt ?_
    refine w_seq ?_
    refine w_block ?_
    refine w_seq ?_
    refine w_region ?_
    refine op_cons rfl (OpV.t (v_move rfl) ?_)
    refine op_cons rfl (OpV.t (v_indexAddr (sets[p.1]'hk) sl43 rfl rfl (by omega) (List.getElem?_eq_getElem hk)) ?_)
    refine op_cons rfl (OpV.t (v_loadI ty22 rfl) ?_)
    refine op_cons rfl (OpV.t (v_assign rfl) ?_)
    refine op_cons rfl (OpV.t (v_assign rfl) ?_)
    refine rl_nil ?_
    refine fin_nxt ?_
    refine w_seq ?_
    refine w_know (i := 5) rfl know_len' (fun hl5 => ?_)
    refine w_region ?_
    refine op_cons rfl (OpV.t (v_move rfl) ?_)
    refine op_cons rfl (OpV.t (v_len sl22 rfl) ?_)
    refine op_cons rfl (OpV.t (v_move rfl) ?_)
    refine rl_nil ?_
    refine fin_nxt ?_
    refine w_block ?_
    refine w_loopOn (ι := Nat × List (Tag × Int)) (fun q => q.1 ≤ (sets[p.1]'hk).length ∧ q.2.map Prod.fst = (sets.take p.1).flatten ++ (sets[p.1]'hk).take q.1 ∧ (q.2.map Prod.fst).Nodup) (fun q => [(2, anyv), (20, isv (q.1 : Int))]) (fun q => [mapE b1 q.2]) (fun q => (sets[p.1]'hk).length - q.1) ((0, p.2)) ?_ (.cons .here .nil) (mod_cons (j := 2) rfl (fun _ _ _ => trivial) (mod_eq (j := 20) rfl (by first | rfl | (simp; done) | (simp; omega)) mod_nil)) (fun q hI => ?_)
    · exact ⟨Nat.zero_le _, by simpa using hI.2.1, hI.2.2⟩
    have hJ := hI
    refine w_seq ?_
    refine w_region ?_
    refine op_cons rfl (OpV.t (v_lss rfl rfl) ?_)
    refine rl_nil ?_
    refine fin_nxt ?_
    refine w_seq ?_
    refine w_cond rfl (fun h5b => ?_) (fun h5b => ?_)
    · have h5 := of_decide_eq_true h5b
      have hq : q.1 < (sets[p.1]'hk).length := by have hh := h5; omega
      refine w_skip ?_
      refine fin_nxt ?_
      refine w_seq ?_
      refine w_block ?_
      refine w_seq ?_
      refine w_region ?_
      refine op_cons rfl (OpV.t (v_indexAddr ((sets[p.1]'hk)[q.1]'hq) sl22 rfl rfl (by omega) (List.getElem?_eq_getElem hq)) ?_)
      refine op_cons rfl (OpV.t (v_loadI ty26 rfl) ?_)
      refine op_cons rfl (t_alloc _ ze26 (fun b6 => ?_))
      refine op_cons rfl (t_store ty26 rfl rfl .here ?_)
      refine rl_nil ?_
      refine fin_nxt ?_
      refine w_seq ?_
      refine w_seq ?_
      refine w_region ?_
      refine op_cons rfl (OpV.t (v_move rfl) ?_)
      refine op_cons rfl (t_load ty26 rfl .here ?_)
      refine op_cons rfl (t_lookupOk Try.underlying47 key26 ze3 rfl rfl (.there .here) ?_)
      refine op_cons rfl (OpV.t (v_move rfl) ?_)
      refine op_cons rfl (OpV.t (v_extract rfl rfl) ?_)
      refine op_cons rfl (OpV.t (v_extract rfl rfl) ?_)
      refine op_cons rfl (OpV.t (v_assign rfl) ?_)
      refine op_cons rfl (OpV.t (v_assign rfl) ?_)
      refine rl_nil ?_
      refine fin_nxt ?_
      refine w_seq ?_
      refine w_region ?_
      refine op_cons rfl (OpV.t (v_move rfl) ?_)
      refine rl_nil ?_
      refine fin_nxt ?_
      refine w_cond rfl (fun h8b => ?_) (fun h8b => ?_)
      · have h8 := h8b
        have hin : (sets[p.1]'hk)[q.1]'hq ∈ (sets.take p.1).flatten ++ (sets[p.1]'hk).take q.1 := by have hh := h8; rw [mget_isSome] at hh; rw [← hJ.2.1]; exact of_decide_eq_true hh
        refine w_seq ?_
        refine w_region ?_
        refine op_cons rfl (OpV.t (v_assign rfl) ?_)
        refine rl_nil ?_
        refine fin_nxt ?_
        refine w_ret ?_
        refine ret_nxt ?_
        refine ret_block ?_
        refine ret_nxt ?_
        refine ret_loop ?_
        refine ret_block ?_
        refine ret_block ?_
        refine ret_nxt ?_
        refine ret_loop ?_
        refine ret_block ?_
        refine ret_nxt ?_
        refine ret_post (.tmp rfl .nil) .nil ?_
        first | exact pure1 (dist_hit hk hq hin) | exact pure1 (dist_all (k := p.1) (by omega) (by have := hI.2.2; rw [hI.2.1] at this; exact this))
      · have h8 := h8b
        have hno := mget_miss h8
        have hmiss : (sets[p.1]'hk)[q.1]'hq ∉ q.2.map Prod.fst := by have hh := h8; rw [mget_isSome] at hh; exact of_decide_eq_false hh
        refine w_skip ?_
        refine fin_nxt ?_
        refine w_region ?_
        refine op_cons rfl (OpV.t (v_move rfl) ?_)
        refine op_cons rfl (t_load ty26 rfl .here ?_)
        refine op_cons rfl (OpV.t (v_move rfl) ?_)
        refine op_cons rfl (t_mapAdd Try.underlying47 key26 rfl rfl rfl (.there .here) (hno) ?_)
        refine rl_nil ?_
        refine fin_block ?_
        refine fin_nxt ?_
        refine w_region ?_
        refine op_cons rfl (OpV.t (v_add rfl rfl (in_mk (by omega) (by omega))) ?_)
        refine op_cons rfl (OpV.t (v_move rfl) ?_)
        refine rl_nil ?_
        refine fin_loopOn ((q.1 + 1, q.2 ++ [((sets[p.1]'hk)[q.1]'hq, (p.1 : Int))])) ?_ ?_ 20 rfl rfl (mod_cons (j := 2) rfl (fun _ _ _ => trivial) (mod_eq (j := 20) rfl (by first | rfl | (simp; done) | (simp; omega)) mod_nil)) (.cons .here .nil)
        · exact ⟨by simp only; omega, by rw [List.map_append, hJ.2.1]; exact dist_step hk hq, by rw [List.map_append]; exact dist_next hJ.2.2 hmiss⟩
        · simp only; omega
    · have h5 := of_decide_eq_false h5b
      refine w_exit ?_
      refine exi_nxt ?_
      refine exi_loop ?_
      refine exi_block ?_
      refine fin_block ?_
      refine fin_nxt ?_
      refine w_region ?_
      refine op_cons rfl (OpV.t (v_add rfl rfl (in_mk (by omega) (by omega))) ?_)
      refine op_cons rfl (OpV.t (v_move rfl) ?_)
      refine rl_nil ?_
      refine fin_loopOn ((p.1 + 1, q.2)) ?_ ?_ 16 rfl rfl (mod_cons (j := 2) rfl (fun _ _ _ => trivial) (mod_eq (j := 13) rfl (by first | rfl | (simp; done) | (simp; omega)) mod_nil)) (.cons .here .nil)
      · exact ⟨by simp only; omega, by have := hJ.2.1; rw [dist_round hk (by omega)] at this; exact this, hJ.2.2⟩
      · simp only; omega
  · have h3 := of_decide_eq_false h3b
    refine w_exit ?_
    refine exi_nxt ?_
    refine exi_loop ?_
    refine exi_block ?_
    refine fin_nxt ?_
    refine w_seq ?_
    refine w_region ?_
    refine op_cons rfl (OpV.t (v_assign rfl) ?_)
    refine rl_nil ?_
    refine fin_nxt ?_
    refine w_ret ?_
    refine ret_post (.tmp rfl .nil) .nil ?_
    first | exact pure1 (dist_hit hk hq hin) | exact pure1 (dist_all (k := p.1) (by omega) (by have := hI.2.2; rw [hI.2.1] at this; exact this))

theorem rdist_spec (sets : List (List Tag)) (hb : sets.flatten.length ≤ 1000000) : Ctr Try.prog 20 [isv sets] [] (pureP (Tag.apart sets)) := by
  refine spec_intro Try.func20 rfl (by decide +kernel) (by rfl) fun w0 S0 => ?_
  refine w_know (i := 0) rfl know_len' (fun hl0 => ?_)
  refine w_seq ?_
  refine w_region ?_
  refine op_cons rfl (OpV.t (v_assign rfl) ?_)
  refine rl_nil ?_
  refine fin_nxt ?_
  refine w_seq ?_
  refine w_region ?_
  refine op_cons rfl (OpV.t (v_assign rfl) ?_)
  refine rl_nil ?_
  refine fin_nxt ?_
  refine w_seq ?_
  refine w_seq ?_
  refine w_none ?_
  refine w_imp (slots_one (i := 3) rfl (nilv_appv (α := Tag))) ?_
  refine w_region ?_
  refine op_cons rfl (OpV.t (v_assign rfl) ?_)
  refine rl_nil ?_
  refine fin_nxt ?_
  refine w_block ?_
  refine w_loopOn (ι := Nat × Tok) (fun p => p.1 ≤ sets.length ∧ (sets.take p.1).flatten.Nodup) (fun p => [(2, anyv), (3, appv p.2 (sets.take p.1).flatten), (4, isv (p.1 : Int))]) (fun p => [tokE p.2]) (fun p => sets.length - p.1) ((0, none)) ?_ (.cons .here .nil) (mod_cons (j := 2) rfl (fun _ _ _ => trivial) (mod_app (j := 3) rfl (by first | rfl | exact dist_round hk (by omega)) (mod_eq (j := 4) rfl (by first | rfl | (simp; done) | (simp; omega)) mod_nil))) (fun p hI => ?_)
  · exact ⟨Nat.zero_le _, by simp⟩
  refine w_seq ?_
  refine w_seq ?_
  refine w_region ?_
  refine op_cons rfl (OpV.t (v_move rfl) ?_)
  refine op_cons rfl (OpV.t (v_move rfl) ?_)
  refine op_cons rfl (OpV.t (v_len sl43 rfl) ?_)
  refine op_cons rfl (OpV.t (v_lss rfl rfl) ?_)
  refine rl_nil ?_
  refine fin_nxt ?_
  refine w_cond rfl (fun h2b => ?_) (fun h2b => ?_)
  · have h2 := of_decide_eq_true h2b
    have hk : p.1 < sets.length := by have hh := h2; omega
    have hfb : (sets.take p.1).flatten.length + (sets[p.1]'hk).length ≤ 1000000 := by rw [← flat_next hk]; exact Nat.le_trans (flat_le _) hb
    refine w_skip ?_
    refine fin_nxt ?_
    refine w_seq ?_
    refine w_block ?_
    refine w_seq ?_
    refine w_region ?_
    refine op_cons rfl (OpV.t (v_assign rfl) ?_)
    refine rl_nil ?_
    refine fin_nxt ?_
    refine w_block ?_
    refine w_loopOn (ι := Nat × Tok) (fun q => q.1 ≤ (sets[p.1]'hk).length ∧ ((sets.take p.1).flatten ++ (sets[p.1]'hk).take q.1).Nodup) (fun q => [(2, anyv), (3, appv q.2 ((sets.take p.1).flatten ++ (sets[p.1]'hk).take q.1)), (5, isv (q.1 : Int))]) (fun q => [tokE q.2]) (fun q => (sets[p.1]'hk).length - q.1) ((0, p.2)) ?_ (.cons .here .nil) (mod_cons (j := 2) rfl (fun _ _ _ => trivial) (mod_app (j := 3) rfl (by first | rfl | (simp; done) | exact dist_step hk hq) (mod_eq (j := 5) rfl (by first | rfl | (simp; done) | (simp; omega)) mod_nil))) (fun q hI => ?_)
    · exact ⟨Nat.zero_le _, by simpa using hI.2⟩
    have hJ := hI
    refine w_seq ?_
    refine w_seq ?_
    refine w_region ?_
    refine op_cons rfl (OpV.t (v_move rfl) ?_)
    refine op_cons rfl (OpV.t (v_move rfl) ?_)
    refine op_cons rfl (OpV.t (v_move rfl) ?_)
    refine op_cons rfl (OpV.t (v_indexAddr (sets[p.1]'hk) sl43 rfl rfl (by omega) (List.getElem?_eq_getElem hk)) ?_)
    refine op_cons rfl (OpV.t (v_loadI ty22 rfl) ?_)
    refine op_cons rfl (OpV.t (v_len sl22 rfl) ?_)
    refine op_cons rfl (OpV.t (v_lss rfl rfl) ?_)
    refine rl_nil ?_
    refine fin_nxt ?_
    refine w_cond rfl (fun h4b => ?_) (fun h4b => ?_)
    · have h4 := of_decide_eq_true h4b
      have hq : q.1 < (sets[p.1]'hk).length := by have hh := h4; omega
      refine w_skip ?_
      refine fin_nxt ?_
      refine w_seq ?_
      refine w_block ?_
      refine w_seq ?_
      refine w_seq ?_
      refine w_region ?_
      refine op_cons rfl (OpV.t (v_move rfl) ?_)
      refine op_cons rfl (OpV.t (v_move rfl) ?_)
      refine op_cons rfl (OpV.t (v_move rfl) ?_)
      refine op_cons rfl (OpV.t (v_indexAddr (sets[p.1]'hk) sl43 rfl rfl (by omega) (List.getElem?_eq_getElem hk)) ?_)
      refine op_cons rfl (OpV.t (v_loadI ty22 rfl) ?_)
      refine op_cons rfl (OpV.t (v_move rfl) ?_)
      refine op_cons rfl (OpV.t (v_indexAddr ((sets[p.1]'hk)[q.1]'hq) sl22 rfl rfl (by omega) (List.getElem?_eq_getElem hq)) ?_)
      refine op_cons rfl (OpV.t (v_loadI ty26 rfl) ?_)
      refine op_cons rfl (t_call (in_spec _ _) (.cons rfl appv_isv (.same rfl .nil)) .nil (fun R H' hR => ?_))
      revert R H'; rintro _ _ ⟨rfl, rfl⟩
      refine rl_nil ?_
      refine fin_nxt ?_
      refine w_cond rfl (fun h6b => ?_) (fun h6b => ?_)
      · have h6 := h6b
        have hin := of_decide_eq_true h6
        refine w_seq ?_
        refine w_region ?_
        refine op_cons rfl (OpV.t (v_assign rfl) ?_)
        refine rl_nil ?_
        refine fin_nxt ?_
        refine w_ret ?_
        refine ret_nxt ?_
        refine ret_block ?_
        refine ret_nxt ?_
        refine ret_loop ?_
        refine ret_block ?_
        refine ret_block ?_
        refine ret_nxt ?_
        refine ret_loop ?_
        refine ret_block ?_
        refine ret_nxt ?_
        refine ret_post (.tmp rfl .nil) .nil ?_
        first | exact pure1 (dist_hit hk hq hin) | exact pure1 (dist_all (k := p.1) (by omega) hI.2)
      · have h6 := h6b
        have hmiss := of_decide_eq_false h6
        refine w_skip ?_
        refine fin_nxt ?_
        refine w_region ?_
        refine op_cons rfl (OpV.t (v_move rfl) ?_)
        refine op_cons rfl (OpV.t (v_move rfl) ?_)
        refine op_cons rfl (OpV.t (v_move rfl) ?_)
        refine op_cons rfl (OpV.t (v_indexAddr (sets[p.1]'hk) sl43 rfl rfl (by omega) (List.getElem?_eq_getElem hk)) ?_)
        refine op_cons rfl (OpV.t (v_loadI ty22 rfl) ?_)
        refine op_cons rfl (OpV.t (v_move rfl) ?_)
        refine op_cons rfl (OpV.t (v_indexAddr ((sets[p.1]'hk)[q.1]'hq) sl22 rfl rfl (by omega) (List.getElem?_eq_getElem hq)) ?_)
        refine op_cons rfl (OpV.t (v_loadI ty26 rfl) ?_)
        refine op_cons rfl (t_buildSlice el22 (.same rfl .nil) rfl rfl ?_)
        refine rl_imp (slots_one (i := 38) rfl (appv_isv)) ?_
        refine op_cons rfl (t_append ap22_22 rfl rfl (.inr rfl) (.cons .here .nil) (by rw [List.length_append, List.length_take]; simp only [List.length_cons, List.length_nil]; omega) (fun t7 => ?_))
        refine op_cons rfl (OpV.t (v_assign rfl) ?_)
        refine rl_nil ?_
        refine fin_block ?_
        refine fin_nxt ?_
        refine w_region ?_
        refine op_cons rfl (OpV.t (v_move rfl) ?_)
        refine op_cons rfl (OpV.t (v_add rfl rfl (in_mk (by omega) (by omega))) ?_)
        refine op_cons rfl (OpV.t (v_assign rfl) ?_)
        refine rl_nil ?_
        refine fin_loopOn ((q.1 + 1, t7)) ?_ ?_ 34 rfl rfl (mod_cons (j := 2) rfl (fun _ _ _ => trivial) (mod_app (j := 3) rfl (by first | rfl | (simp; done) | exact dist_step hk hq) (mod_eq (j := 5) rfl (by first | rfl | (simp; done) | (simp; omega)) mod_nil))) (.cons .here .nil)
        · exact ⟨by simp only; omega, by rw [← dist_step hk hq]; exact dist_next hJ.2 hmiss⟩
        · simp only; omega
    · have h4 := of_decide_eq_false h4b
      refine w_exit ?_
      refine exi_nxt ?_
      refine exi_loop ?_
      refine exi_block ?_
      refine fin_block ?_
      refine fin_nxt ?_
      refine w_region ?_
      refine op_cons rfl (OpV.t (v_move rfl) ?_)
      refine op_cons rfl (OpV.t (v_add rfl rfl (in_mk (by omega) (by omega))) ?_)
      refine op_cons rfl (OpV.t (v_assign rfl) ?_)
      refine rl_nil ?_
      refine fin_loopOn ((p.1 + 1, q.2)) ?_ ?_ 21 rfl rfl (mod_cons (j := 2) rfl (fun _ _ _ => trivial) (mod_app (j := 3) rfl (by first | rfl | exact dist_round hk (by omega)) (mod_eq (j := 4) rfl (by first | rfl | (simp; done) | (simp; omega)) mod_nil))) (.cons .here .nil)
      · exact ⟨by simp only; omega, by have := hJ.2; rw [dist_round hk (by omega)] at this; exact this⟩
      · simp only; omega
  · have h2 := of_decide_eq_false h2b
    refine w_exit ?_
    refine exi_nxt ?_
    refine exi_loop ?_
    refine exi_block ?_
    refine fin_nxt ?_
    refine w_seq ?_
    refine w_region ?_
    refine op_cons rfl (OpV.t (v_assign rfl) ?_)
    refine rl_nil ?_
    refine fin_nxt ?_
    refine w_ret ?_
    refine ret_post (.tmp rfl .nil) .nil ?_
    first | exact pure1 (dist_hit hk hq hin) | exact pure1 (dist_all (k := p.1) (by omega) hI.2)
end Go.Proofs.Ytlngkmmajaaloaa
