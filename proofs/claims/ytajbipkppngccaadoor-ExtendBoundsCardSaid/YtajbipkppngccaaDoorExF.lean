/- What the laws of this seat share: the tables of utf8, as the rows list them, and a world in which they lie so. No condition: general lemmas. -/
import Derived.Test.YtajbipkppngccaaDoorExA
import Derived.Test.YtajbipkppngccaaDoorExB
import Derived.Test.YtajbipkppngccaaDoorExC
import Derived.Test.YtajbipkppngccaaDoorExD
import Derived.Test.YtajbipkppngccaaDoorExE
import Derived.Lib.LaidIn
import Derived.Lib.LaidU8T
import Derived.Deep.DeepHandedRow
import Derived.Deep.DeepWitnessRowRef
import Derived.ProofKit
import Derived.KernelRfl
import Derived.Test.YtajbipkppngccaaDoorRows
set_option linter.unusedVariables false
set_option linter.unusedSimpArgs false

namespace Go.Proofs.YtajbipkppngccaaDoor
open Go.Sy
set_option maxRecDepth 4000
theorem r10_maker_standard_w : ∀ {a_x : GMk} {a_i : Int} {a_v : Val} {b_a_x : Nat} {v_a_x1 : Vt} {r : Val × GMk}, r10_maker_standard a_x a_i a_v = some r → Ctr Tryd.prog 125 [ptrv b_a_x (Fld.id (GMod × Vh × Int)), isv (a_i), isv (a_v)] [boxE b_a_x ((a_x.m, (Vh.mk v_a_x1 a_x.l.length), a_x.e) : (GMod × Vh × Int)), vecE v_a_x1 (a_x.l : List GTyp)] (fun R H => R = oneOf [isv (r.1)] ∧ H = [boxE b_a_x ((r.2.m, (Vh.mk v_a_x1 r.2.l.length), r.2.e)), vecE v_a_x1 (r.2.l)]) := by
 intro a_x a_i a_v b_a_x v_a_x1 r h
 unfold r10_maker_standard at h
 refine spec_intro Tryd.func125 rfl (by decide +kernel) (by rfl) fun w0 S0 hT => ?_
 refine wsr ?_
 refine oT (t_boxC (y := a_v) rfl (fun _ _ h => h) fun b2 => ?_)
 refine oT (t_alloc _ ze67 fun b3 => ?_)
 refine rnf ?_
 refine wsr ?_
 refine oV (v_move rfl) ?_
 refine oV (v_nilCheck rfl) ?_
 refine oV (v_fa rfl pt113_0_1 fd113_1) ?_
 refine oT (t_loadC (R := vecv v_a_x1 (a_x.l.length)) ty24 rfl (.there (.there .here)) isvV1 ?_)
 refine oV (v_move rfl) ?_
 refine asd_inv h fun q4 h => ?_
 refine oV (v_vidx (α := GTyp) sl24 rfl rfl q4.1 q4.2) ?_
 refine cal_inv h fun y5 hy5 h => ?_
 refine oT (t_vload ty58 rfl (.there (.there (.there .here))) hy5 ?_)
 refine oT (t_alloc _ ze58 fun b6 => ?_)
 refine oT (t_storeC (y' := (y5 : GTyp)) ty58 rfl rfl (fun _ _ h => h) .here rfl ?_)
 refine rl_upd (upd_imm 7 .here rfl) ?_
 refine rnf ?_
 refine wsr ?_
 refine oV (v_fa rfl Val.f0 fd67_0) ?_
 refine oT (t_loadC (R := isv (a_v.kind)) ty3 rfl (.there .here) (fun _ _ h => h) ?_)
 refine oV (v_fi rfl GTyp.f0 fd58_0 rfl (z := y5.kind)) ?_
 refine oV (v_loadI ty3 rfl) ?_
 refine oV (v_eql rfl rfl) ?_
 refine oV (v_assign rfl) ?_
 refine rnf ?_
 refine w_seq ?_
 refine wsr ?_
 refine oV (v_fi rfl GTyp.f0 fd58_0 rfl (z := y5.kind)) ?_
 refine oV (v_loadI ty3 rfl) ?_
 refine rnf ?_
 refine w_J (ι := Bool × Val) (γ := Unit) (fun q7 g7 => [(5, ptrv b2 (Fld.id Val)), (8, isv (q7.1))]) (fun q7 g7 => [boxE b2 (q7.2 : Val)]) (.cons (.there .here) .nil) h (fun q7 g7 h => ?_) (fun J8 h hJ8 => ?_)
 ·
  refine w_seq ?_
  refine wsr ?_
  refine oV (v_move rfl) ?_
  refine oV (v_not rfl) ?_
  refine rnf ?_
  refine w_J (ι := GMk) (γ := Unit) (fun q51 g51 => []) (fun q51 g51 => [boxE b_a_x ((q51.m, (Vh.mk v_a_x1 q51.l.length), q51.e) : (GMod × Vh × Int)), vecE v_a_x1 (q51.l : List GTyp)]) (.cons (.there (.there .here)) (.cons (.there (.there .here)) .nil)) h (fun q51 g51 h => ?_) (fun J52 h hJ52 => ?_)
  ·
   refine wsr ?_
   refine oT (t_loadC (R := isv (q7.2)) ty67 rfl (.there (.there .here)) (fun _ _ h => h) ?_)
   refine oT (t_storeC (y' := (q7.2 : Val)) ty67 rfl rfl (fun _ _ h => h) (.there (.there (.there .here))) rfl ?_)
   refine rnf ?_
   refine w_ret ?_
   refine ret_post (.cell rfl .here ty67 .nil) (.cons (.there .here) (.cons (.there .here) .nil)) ?_
   obtain rfl := Option.some.inj h
   exact ⟨rfl, rfl⟩
  ·
   refine w_condM h rfl (fun _ h => ?_) (fun _ h => ?_)
   ·
    refine w_region ?_
    refine oV (v_move rfl) ?_
    refine cal_inv h fun y53 hy53 h => ?_
    refine oT (t_call (r10_maker_fail_w hy53) hT (.same rfl (.same rfl .nil)) (.cons (.there (.there .here)) (.cons (.there (.there .here)) .nil)) (fun R H' hR => ?_))
    obtain ⟨rfl, rfl⟩ := hR
    refine rl_nil ?_
    exact hJ52 _ () h _ (join_imp 2 rfl rfl mod_nil (.cons .here (.cons .here (.cons .here (.cons .here .nil)))))
   ·
    refine w_skip ?_
    exact hJ52 _ () h _ (join_imp 0 rfl rfl mod_nil (.cons (.there (.there .here)) (.cons (.there (.there .here)) (.cons .here (.cons .here .nil)))))
 ·
  refine w_block ?_
  refine w_seq ?_
  refine wsr ?_
  refine oV (v_eql rfl rfl) ?_
  refine oV (v_assign rfl) ?_
  refine rnf ?_
  refine w_J (ι := Bool) (γ := Unit) (fun q9 g9 => [(24, isv (q9))]) (fun q9 g9 => []) .nil h (fun q9 g9 h => ?_) (fun J10 h hJ10 => ?_)
  ·
   refine w_condM h rfl (fun _ h => ?_) (fun _ h => ?_)
   ·
    refine w_skip ?_
    refine fin_block ?_
    exact hJ8 _ () h _ (join_imp 3 rfl rfl (mod_cons (j := 5) rfl (fun _ _ h => h) (mod_cons (j := 8) rfl (fun _ _ h => h) mod_nil)) (.cons (.there .here) (.cons .here (.cons .here (.cons .here .nil)))))
   ·
    refine wsr ?_
    refine oV (v_eql rfl rfl) ?_
    refine oV (v_assign rfl) ?_
    refine rnf ?_
    refine w_condM h rfl (fun _ h => ?_) (fun _ h => ?_)
    ·
     refine w_region ?_
     refine oV (v_move rfl) ?_
     refine oV (v_move rfl) ?_
     refine rl_j (ι := Bool) (γ := Unit) (fun q11 g11 => [(36, isv (q11))]) (fun q11 g11 => []) .nil h 6 rfl (fun q11 g11 h => ?_) (fun J12 h hJ12 => ?_)
     ·
      refine oV (v_assign rfl) ?_
      refine rl_nil ?_
      refine fin_block ?_
      exact hJ8 _ () h _ (join_imp 9 rfl rfl (mod_cons (j := 5) rfl (fun _ _ h => h) (mod_cons (j := 8) rfl (fun _ _ h => h) mod_nil)) (.cons (.there .here) (.cons .here (.cons .here (.cons .here .nil)))))
     ·
      refine rl_condM (j := 30) h rfl (fun g13 h => ?_) (fun g13 h => ?_)
      ·
       refine op_take rfl rfl (dj := 30) rfl g13 (OpV.t (v_fi rfl GTyp.f2 fd58_2 rfl (z := y5.con)) ?_)
       refine op_take rfl rfl (dj := 30) rfl g13 (OpV.t (v_loadI ty54 rfl) ?_)
       refine op_take rfl rfl (dj := 30) rfl g13 (OpV.t (v_fa rfl Val.f1 fd67_1) ?_)
       refine op_take rfl rfl (dj := 30) rfl g13 (t_loadC (R := isv (a_v.n)) ty2 rfl (.there .here) (fun _ _ h => h) ?_)
       refine cal_inv h fun y14 hy14 h => ?_
       refine op_take rfl rfl (dj := 30) rfl g13 (t_call (r08_Within_w hy14) hT (.same rfl (.same rfl .nil)) .nil (fun R H' hR => ?_))
       obtain ⟨rfl, rfl⟩ := hR
       refine oV (v_pick_t rfl g13 rfl) ?_
       exact hJ12 _ () h _ (join_imp 6 rfl rfl (mod_cons (j := 36) rfl (fun _ _ h => h) mod_nil) (.cons .here (.cons .here (.cons .here (.cons .here .nil)))))
      ·
       refine op_pass rfl (dj := 30) rfl g13 ?_
       refine op_pass rfl (dj := 30) rfl g13 ?_
       refine op_pass rfl (dj := 30) rfl g13 ?_
       refine op_pass rfl (dj := 30) rfl g13 ?_
       refine op_pass rfl (dj := 30) rfl g13 ?_
       refine oV (v_pick_f rfl g13 rfl) ?_
       exact hJ12 _ () h _ (join_imp 6 rfl rfl (mod_cons (j := 36) rfl (fun _ _ h => h) mod_nil) (.cons .here (.cons .here (.cons .here (.cons .here .nil)))))
    ·
     refine w_seq ?_
     refine wsr ?_
     refine oV (v_eql rfl rfl) ?_
     refine oV (v_assign rfl) ?_
     refine rnf ?_
     refine w_J (ι := Bool) (γ := Unit) (fun q15 g15 => [(37, isv (q15))]) (fun q15 g15 => []) .nil h (fun q15 g15 h => ?_) (fun J16 h hJ16 => ?_)
     ·
      refine w_condM h rfl (fun _ h => ?_) (fun _ h => ?_)
      ·
       refine w_region ?_
       refine oV (v_move rfl) ?_
       refine oV (v_move rfl) ?_
       refine rl_j (ι := Bool) (γ := Unit) (fun q17 g17 => [(48, isv (q17))]) (fun q17 g17 => []) .nil h 7 rfl (fun q17 g17 h => ?_) (fun J18 h hJ18 => ?_)
       ·
        refine oV (v_move rfl) ?_
        refine rl_j (ι := Bool) (γ := Unit) (fun q21 g21 => [(58, isv (q21))]) (fun q21 g21 => []) .nil h 9 rfl (fun q21 g21 h => ?_) (fun J22 h hJ22 => ?_)
        ·
         refine oV (v_assign rfl) ?_
         refine rl_nil ?_
         refine fin_block ?_
         exact hJ8 _ () h _ (join_imp 14 rfl rfl (mod_cons (j := 5) rfl (fun _ _ h => h) (mod_cons (j := 8) rfl (fun _ _ h => h) mod_nil)) (.cons (.there .here) (.cons .here (.cons .here (.cons .here .nil)))))
        ·
         refine rl_condM (j := 49) h rfl (fun g23 h => ?_) (fun g23 h => ?_)
         ·
          refine op_take rfl rfl (dj := 49) rfl g23 (OpV.t (v_fi rfl GTyp.f0 fd58_0 rfl (z := y5.kind)) ?_)
          refine op_take rfl rfl (dj := 49) rfl g23 (OpV.t (v_loadI ty3 rfl) ?_)
          refine op_take rfl rfl (dj := 49) rfl g23 (OpV.t (v_eql rfl rfl) ?_)
          refine op_take rfl rfl (dj := 49) rfl g23 (OpV.t (v_move rfl) ?_)
          refine rl_j (ι := Bool) (γ := Unit) (fun q24 g24 => [(57, isv (q24))]) (fun q24 g24 => []) .nil h 4 rfl (fun q24 g24 h => ?_) (fun J25 h hJ25 => ?_)
          ·
           refine oV (v_pick_t rfl g23 rfl) ?_
           exact hJ22 _ () h _ (join_imp 6 rfl rfl (mod_cons (j := 58) rfl (fun _ _ h => h) mod_nil) (.cons .here (.cons .here (.cons .here (.cons .here .nil)))))
          ·
           refine rl_condM (j := 53) h rfl (fun g26 h => ?_) (fun g26 h => ?_)
           ·
            refine op_pass rfl (dj := 53) rfl g26 ?_
            refine op_pass rfl (dj := 53) rfl g26 ?_
            refine op_pass rfl (dj := 53) rfl g26 ?_
            refine op_take rfl rfl (dj := 49) rfl g23 (OpV.t (v_pick_t rfl g26 rfl) ?_)
            exact hJ25 _ () h _ (join_imp 4 rfl rfl (mod_cons (j := 57) rfl (fun _ _ h => h) mod_nil) (.cons .here (.cons .here (.cons .here (.cons .here .nil)))))
           ·
            refine op_take rfl rfl (dj := 53) rfl g26 (OpV.t (v_fa rfl Val.f2 fd67_2) ?_)
            refine op_take rfl rfl (dj := 53) rfl g26 (t_loadC (R := isv (a_v.b)) ty63 rfl (.there .here) (fun _ _ h => h) ?_)
            refine cal_inv h fun y27 hy27 h => ?_
            refine op_take rfl rfl (dj := 53) rfl g26 (t_call (utf8_Valid_w hy27) hT (.same rfl .nil) .nil (fun R H' hR => ?_))
            obtain ⟨rfl, rfl⟩ := hR
            refine op_take rfl rfl (dj := 49) rfl g23 (OpV.t (v_pick_f rfl g26 rfl) ?_)
            exact hJ25 _ () h _ (join_imp 4 rfl rfl (mod_cons (j := 57) rfl (fun _ _ h => h) mod_nil) (.cons .here (.cons .here (.cons .here (.cons .here .nil)))))
         ·
          refine op_pass rfl (dj := 49) rfl g23 ?_
          refine op_pass rfl (dj := 49) rfl g23 ?_
          refine op_pass rfl (dj := 49) rfl g23 ?_
          refine op_pass rfl (dj := 49) rfl g23 ?_
          refine op_passU rfl (dj := 53) rfl ?_
          refine op_passU rfl (dj := 53) rfl ?_
          refine op_passU rfl (dj := 53) rfl ?_
          refine op_pass rfl (dj := 49) rfl g23 ?_
          refine oV (v_pick_f rfl g23 rfl) ?_
          exact hJ22 _ () h _ (join_imp 9 rfl rfl (mod_cons (j := 58) rfl (fun _ _ h => h) mod_nil) (.cons .here (.cons .here (.cons .here (.cons .here .nil)))))
       ·
        refine rl_condM (j := 41) h rfl (fun g19 h => ?_) (fun g19 h => ?_)
        ·
         refine op_take rfl rfl (dj := 41) rfl g19 (OpV.t (v_fi rfl GTyp.f2 fd58_2 rfl (z := y5.con)) ?_)
         refine op_take rfl rfl (dj := 41) rfl g19 (OpV.t (v_loadI ty54 rfl) ?_)
         refine op_take rfl rfl (dj := 41) rfl g19 (OpV.t (v_fa rfl Val.f2 fd67_2) ?_)
         refine op_take rfl rfl (dj := 41) rfl g19 (t_loadC (R := isv (a_v.b)) ty63 rfl (.there .here) (fun _ _ h => h) ?_)
         refine op_take rfl rfl (dj := 41) rfl g19 (OpV.t (v_ln (l := a_v.b) rfl (fun _ _ h => h) sl63) ?_)
         refine cal_inv h fun y20 hy20 h => ?_
         refine op_take rfl rfl (dj := 41) rfl g19 (t_call (r08_Within_w hy20) hT (.same rfl (.same rfl .nil)) .nil (fun R H' hR => ?_))
         obtain ⟨rfl, rfl⟩ := hR
         refine oV (v_pick_t rfl g19 rfl) ?_
         exact hJ18 _ () h _ (join_imp 7 rfl rfl (mod_cons (j := 48) rfl (fun _ _ h => h) mod_nil) (.cons .here (.cons .here (.cons .here (.cons .here .nil)))))
        ·
         refine op_pass rfl (dj := 41) rfl g19 ?_
         refine op_pass rfl (dj := 41) rfl g19 ?_
         refine op_pass rfl (dj := 41) rfl g19 ?_
         refine op_pass rfl (dj := 41) rfl g19 ?_
         refine op_pass rfl (dj := 41) rfl g19 ?_
         refine op_pass rfl (dj := 41) rfl g19 ?_
         refine oV (v_pick_f rfl g19 rfl) ?_
         exact hJ18 _ () h _ (join_imp 7 rfl rfl (mod_cons (j := 48) rfl (fun _ _ h => h) mod_nil) (.cons .here (.cons .here (.cons .here (.cons .here .nil)))))
      ·
       refine wsr ?_
       refine oV (v_eql rfl rfl) ?_
       refine oV (v_assign rfl) ?_
       refine rnf ?_
       refine w_condM h rfl (fun _ h => ?_) (fun _ h => ?_)
       ·
        refine wsr ?_
        refine oV (v_move rfl) ?_
        refine rnf ?_
        refine w_condM h rfl (fun _ h => ?_) (fun _ h => ?_)
        ·
         refine wsr ?_
         refine oV (v_assign rfl) ?_
         refine rnf ?_
         refine wsr ?_
         refine oV (v_assign rfl) ?_
         refine rnf ?_
         refine w_block ?_
         refine w_lp (ι := Bool × Int × Val) (γ := Unit) (fun q28 g28 => [(5, ptrv b2 (Fld.id Val)), (8, isv (q28.1)), (9, isv (q28.2.1))]) (fun q28 g28 => [boxE b2 (q28.2.2 : Val)]) h () (mod_cons (j := 5) rfl (fun _ _ h => h) (mod_cons (j := 8) rfl (fun _ _ h => h) (mod_cons (j := 9) rfl (fun _ _ h => h) mod_nil))) (.cons (.there .here) .nil) (fun L29 q28 g28 Q50 h hL29 eL29 rL29 => ?_)
         refine w_seq ?_
         refine wsr ?_
         refine oV (v_move rfl) ?_
         refine oV (v_fi rfl GTyp.f5 fd58_5 rfl (z := y5.root)) ?_
         refine oV (v_loadI ty3 rfl) ?_
         refine oV (v_lss rfl rfl) ?_
         refine oV (v_move rfl) ?_
         refine rl_j (ι := Bool) (γ := Unit) (fun q40 g40 => [(69, isv (q40))]) (fun q40 g40 => []) .nil h 3 rfl (fun q40 g40 h => ?_) (fun J41 h hJ41 => ?_)
         ·
          refine rnf ?_
          refine w_condM h rfl (fun _ h => ?_) (fun _ h => ?_)
          ·
           refine wkf ?_
           refine w_seq ?_
           refine w_J (ι := Bool × Val) (γ := Unit) (fun q43 g43 => [(5, ptrv b2 (Fld.id Val)), (8, isv (q43.1))]) (fun q43 g43 => [boxE b2 (q43.2 : Val)]) (.cons .here .nil) h (fun q43 g43 h => ?_) (fun J44 h hJ44 => ?_)
           ·
            refine w_region ?_
            refine oV (v_move rfl) ?_
            refine ck_inv h fun q49 h => ?_
            refine oV (v_add rfl rfl q49) ?_
            refine oV (v_assign rfl) ?_
            refine rl_nil ?_
            exact hL29 _ () h _ (join_imp 14 rfl rfl (mod_cons (j := 5) rfl (fun _ _ h => h) (mod_cons (j := 8) rfl (fun _ _ h => h) (mod_cons (j := 9) rfl (fun _ _ h => h) mod_nil))) (.cons .here (.cons .here (.cons .here (.cons .here .nil)))))
           ·
            refine w_block ?_
            refine w_seq ?_
            refine w_pinN 5 .here rfl (fun o45 hn46 => ?_)
            refine w_regionD (.v 0 (.v 1 (.v 2 (.v 3 (.v 4 (.v 5 (.v 6 (.v 7 (.v 8 (.v 9 .nil)))))))))) moOrd (by kernel_rfl) ?_
            refine rd_v rfl (v_fi rfl GTyp.f3 fd58_3 rfl (z := y5.items)) ?_
            refine rd_v rfl (v_loadI ty55 rfl) ?_
            refine rd_v rfl (v_move rfl) ?_
            refine cal_inv h fun y47 hy47 h => ?_
            refine rd_v rfl (v_ix (l := y5.items) rfl (fun _ _ h => h) rfl sl55 hy47) ?_
            refine rd_v rfl (v_fi rfl GItem.f0 fd71_0 rfl (z := y47.name)) ?_
            refine rd_v rfl (v_loadI ty9 rfl) ?_
            refine rd_v rfl (v_fp rfl Val.f2 fd67_2) ?_
            refine rd_v rfl (v_lpC (R := isv (q28.2.2.b)) ty63 rfl (List.Mem.head _) (fun _ _ h => h)) ?_
            refine rd_v rfl (v_bs (l := q28.2.2.b) Tryd.underlying63 Tryd.underlying5 Tryd.underlying9 rfl (fun _ _ h => h)) ?_
            refine rd_v rfl (v_eqA eq9 rfl rfl) ?_
            refine rd_nil ?_
            refine fin_unpinN 5 hn46 rfl ?_
            refine fin_nxt ?_
            refine w_condM h rfl (fun _ h => ?_) (fun _ h => ?_)
            ·
             refine w_region ?_
             refine oV (v_fi rfl GTyp.f3 fd58_3 rfl (z := y5.items)) ?_
             refine oV (v_loadI ty55 rfl) ?_
             refine oV (v_move rfl) ?_
             refine cal_inv h fun y48 hy48 h => ?_
             refine oV (v_ix (l := y5.items) rfl (fun _ _ h => h) rfl sl55 hy48) ?_
             refine oV (v_fi rfl GItem.f1 fd71_1 rfl (z := y48.number)) ?_
             refine oV (v_loadI ty2 rfl) ?_
             refine oV (v_build (z := (Val.mk (3 : Int) y48.number ([] : (List UInt8)) ([] : (List Val)) (0 : Int) ([] : (List Raw)))) rfl bu67 ze67 (.cons Val.f0 fd67_0 rfl (fun _ _ h => h) (.cons Val.f1 fd67_1 rfl (fun _ _ h => h) .nil))) ?_
             refine oT (t_storeC (y' := ((Val.mk (3 : Int) y48.number ([] : (List UInt8)) ([] : (List Val)) (0 : Int) ([] : (List Raw))) : Val)) ty67 rfl rfl (fun _ _ h => h) .here rfl ?_)
             refine oV (v_assign rfl) ?_
             refine rl_nil ?_
             refine fin_block ?_
             exact hJ44 _ () h _ (join_imp 20 rfl rfl (mod_cons (j := 5) rfl (fun _ _ h => h) (mod_cons (j := 8) rfl (fun _ _ h => h) mod_nil)) (.cons .here (.cons .here (.cons .here (.cons .here .nil)))))
            ·
             refine w_skip ?_
             refine fin_block ?_
             exact hJ44 _ () h _ (join_imp 12 rfl rfl (mod_cons (j := 5) rfl (fun _ _ h => h) (mod_cons (j := 8) rfl (fun _ _ h => h) mod_nil)) (.cons .here (.cons .here (.cons .here (.cons .here .nil)))))
          ·
           refine w_exit ?_
           refine exi_nxt ?_
           refine eL29 _ _ ?_
           refine exi_block ?_
           refine fin_block ?_
           exact hJ8 _ () h _ (join_imp 22 rfl rfl (mod_cons (j := 5) rfl (fun _ _ h => h) (mod_cons (j := 8) rfl (fun _ _ h => h) mod_nil)) (.cons .here (.cons .here (.cons .here (.cons .here .nil)))))
         ·
          refine rl_condM (j := 66) h rfl (fun g42 h => ?_) (fun g42 h => ?_)
          ·
           refine op_take rfl rfl (dj := 66) rfl g42 (OpV.t (v_move rfl) ?_)
           refine op_take rfl rfl (dj := 66) rfl g42 (OpV.t (v_not rfl) ?_)
           refine oV (v_pick_t rfl g42 rfl) ?_
           exact hJ41 _ () h _ (join_imp 3 rfl rfl (mod_cons (j := 69) rfl (fun _ _ h => h) mod_nil) (.cons .here (.cons .here (.cons .here (.cons .here .nil)))))
          ·
           refine op_pass rfl (dj := 66) rfl g42 ?_
           refine op_pass rfl (dj := 66) rfl g42 ?_
           refine oV (v_pick_f rfl g42 rfl) ?_
           exact hJ41 _ () h _ (join_imp 3 rfl rfl (mod_cons (j := 69) rfl (fun _ _ h => h) mod_nil) (.cons .here (.cons .here (.cons .here (.cons .here .nil)))))
        ·
         refine w_skip ?_
         refine fin_block ?_
         exact hJ8 _ () h _ (join_imp 11 rfl rfl (mod_cons (j := 5) rfl (fun _ _ h => h) (mod_cons (j := 8) rfl (fun _ _ h => h) mod_nil)) (.cons (.there .here) (.cons .here (.cons .here (.cons .here .nil)))))
       ·
        refine w_region ?_
        refine oV (v_assign rfl) ?_
        refine rl_nil ?_
        refine fin_block ?_
        exact hJ8 _ () h _ (join_imp 11 rfl rfl (mod_cons (j := 5) rfl (fun _ _ h => h) (mod_cons (j := 8) rfl (fun _ _ h => h) mod_nil)) (.cons (.there .here) (.cons .here (.cons .here (.cons .here .nil)))))
     ·
      refine w_condM h rfl (fun _ h => ?_) (fun _ h => ?_)
      ·
       refine w_skip ?_
       exact hJ16 _ () h _ (join_imp 0 rfl rfl (mod_cons (j := 37) rfl (fun _ _ h => h) mod_nil) (.cons .here (.cons .here (.cons .here (.cons .here .nil)))))
      ·
       refine w_region ?_
       refine oV (v_eql rfl rfl) ?_
       refine oV (v_assign rfl) ?_
       refine rl_nil ?_
       exact hJ16 _ () h _ (join_imp 2 rfl rfl (mod_cons (j := 37) rfl (fun _ _ h => h) mod_nil) (.cons .here (.cons .here (.cons .here (.cons .here .nil)))))
  ·
   refine w_condM h rfl (fun _ h => ?_) (fun _ h => ?_)
   ·
    refine w_skip ?_
    exact hJ10 _ () h _ (join_imp 0 rfl rfl (mod_cons (j := 24) rfl (fun _ _ h => h) mod_nil) (.cons .here (.cons .here (.cons .here (.cons .here .nil)))))
   ·
    refine w_region ?_
    refine oV (v_eql rfl rfl) ?_
    refine oV (v_assign rfl) ?_
    refine rl_nil ?_
    exact hJ10 _ () h _ (join_imp 2 rfl rfl (mod_cons (j := 24) rfl (fun _ _ h => h) mod_nil) (.cons .here (.cons .here (.cons .here (.cons .here .nil)))))


theorem r10_maker_soft_w : ∀ {a_x : GMk} {a_i : Int} {b_a_x : Nat} {v_a_x1 : Vt} {r : Int × GMk}, r10_maker_soft a_x a_i = some r → Ctr Tryd.prog 86 [ptrv b_a_x (Fld.id (GMod × Vh × Int)), isv (a_i)] [boxE b_a_x ((a_x.m, (Vh.mk v_a_x1 a_x.l.length), a_x.e) : (GMod × Vh × Int)), vecE v_a_x1 (a_x.l : List GTyp)] (fun R H => R = oneOf [isv (r.1)] ∧ H = [boxE b_a_x ((r.2.m, (Vh.mk v_a_x1 r.2.l.length), r.2.e)), vecE v_a_x1 (r.2.l)]) := by
 intro a_x a_i b_a_x v_a_x1 r h
 unfold r10_maker_soft at h
 refine spec_intro Tryd.func86 rfl (by decide +kernel) (by rfl) fun w0 S0 hT => ?_
 refine wsr ?_
 refine oV (v_assign rfl) ?_
 refine rnf ?_
 refine w_seq ?_
 refine wsr ?_
 refine oV (v_move rfl) ?_
 refine oV (v_nilCheck rfl) ?_
 refine oV (v_fa rfl pt113_0_1 fd113_1) ?_
 refine oT (t_loadC (R := vecv v_a_x1 (a_x.l.length)) ty24 rfl .here isvV1 ?_)
 refine oV (v_move rfl) ?_
 refine asd_inv h fun q2 h => ?_
 refine oV (v_vidx (α := GTyp) sl24 rfl rfl q2.1 q2.2) ?_
 refine oV (v_fv rfl GTyp.f1 fd58_1) ?_
 refine cal_inv h fun y3 hy3 h => ?_
 refine oT (t_vload ty52 rfl (.there .here) hy3 ?_)
 refine oV (v_ln (l := y3.tags) rfl (fun _ _ h => h) sl52) ?_
 refine oV (v_gtr rfl rfl) ?_
 refine rnf ?_
 refine w_condM h rfl (fun _ h => ?_) (fun _ h => ?_)
 ·
  refine wsr ?_
  refine oV (v_assign rfl) ?_
  refine rnf ?_
  refine w_ret ?_
  refine ret_nxt ?_
  refine ret_post (.tmp rfl .nil) (.cons .here (.cons .here .nil)) ?_
  obtain rfl := Option.some.inj h
  exact ⟨rfl, rfl⟩
 ·
  refine wkf ?_
  refine wsr ?_
  refine oV (v_assign rfl) ?_
  refine rnf ?_
  refine w_ret ?_
  refine ret_post (.tmp rfl .nil) (.cons .here (.cons .here .nil)) ?_
  obtain rfl := Option.some.inj h
  exact ⟨rfl, rfl⟩


theorem r09_Wrap_w : ∀ {a_tags : (List Tag)} {a_number : Int} {a_mode : Int} {r : (List Tag) × Int}, r09_Wrap a_tags a_number a_mode = some r → Ctr Tryd.prog 115 [isv (a_tags), isv (a_number), isv (a_mode)] [] (fun R H => R = oneOf [isv (r.1), isv (r.2)] ∧ H = []) := by
 intro a_tags a_number a_mode r h
 unfold r09_Wrap at h
 refine spec_intro Tryd.func115 rfl (by decide +kernel) (by rfl) fun w0 S0 hT => ?_
 refine wsr ?_
 refine oV (v_assign rfl) ?_
 refine oV (v_assign rfl) ?_
 refine rnf ?_
 refine w_seq ?_
 refine wsr ?_
 refine oV (v_move rfl) ?_
 refine oV (v_lss rfl rfl) ?_
 refine oV (v_move rfl) ?_
 refine rl_j (ι := Bool) (γ := Unit) (fun q1 g1 => [(14, isv (q1))]) (fun q1 g1 => []) .nil h 3 rfl (fun q1 g1 h => ?_) (fun J2 h hJ2 => ?_)
 ·
  refine oV (v_move rfl) ?_
  refine rl_j (ι := Bool) (γ := Unit) (fun q4 g4 => [(23, isv (q4))]) (fun q4 g4 => []) .nil h 8 rfl (fun q4 g4 h => ?_) (fun J5 h hJ5 => ?_)
  ·
   refine rnf ?_
   refine w_condM h rfl (fun _ h => ?_) (fun _ h => ?_)
   ·
    refine wsr ?_
    refine oV (v_assign rfl) ?_
    refine oV (v_assign rfl) ?_
    refine rnf ?_
    refine w_ret ?_
    refine ret_nxt ?_
    refine ret_post (.as rfl (nilv_isv (α := Tag)) (.tmp rfl .nil)) .nil ?_
    obtain rfl := Option.some.inj h
    exact ⟨rfl, rfl⟩
   ·
    refine wkf ?_
    refine wsr ?_
    refine oV (v_move rfl) ?_
    refine oV (v_build (z := (Tag.mk (2 : Int) a_number)) rfl bu61 ze61 (.cons Tag.f0 fd61_0 rfl (fun _ _ h => h) (.cons Tag.f1 fd61_1 rfl (fun _ _ h => h) .nil))) ?_
    refine oT (t_buildSlice (l := ([(Tag.mk (2 : Int) a_number)] : (List Tag))) el52 (.cons rfl (fun _ _ h => h) .nil) rfl rfl ?_)
    refine oV (v_assign rfl) ?_
    refine rnf ?_
    refine w_seq ?_
    refine wsr ?_
    refine oV (v_move rfl) ?_
    refine oV (v_eql rfl rfl) ?_
    refine rnf ?_
    refine w_condM h rfl (fun _ h => ?_) (fun _ h => ?_)
    ·
     refine wsr ?_
     refine oV (v_move rfl) ?_
     refine oV (v_move rfl) ?_
     refine asd_inv h fun q11 h => ?_
     refine oV (v_sl (l := a_tags) rfl (fun _ _ h => h) sl52 (.inr ⟨_, rfl, rfl⟩) (.inl ⟨rfl, rfl⟩) q11.1 q11.2.1 q11.2.2) ?_
     refine rl_upd (upd_tok) ?_
     refine asr_inv h fun q13 h => ?_
     refine oT (t_appC (l := ([(Tag.mk (2 : Int) a_number)] : (List Tag))) (m := ((a_tags.take ((a_tags.length : Int)).toNat).drop ((1 : Int)).toNat)) ap52_52 rfl (fun _ _ h => h) rfl (fun _ _ h => h) .here q13 fun t12 => ?_)
     refine oV (v_assign rfl) ?_
     refine oV (v_assign rfl) ?_
     refine rnf ?_
     refine w_ret ?_
     refine ret_nxt ?_
     refine ret_post (.as rfl appv_isv (.tmp rfl .nil)) .nil ?_
     obtain rfl := Option.some.inj h
     exact ⟨rfl, rfl⟩
    ·
     refine wkf ?_
     refine wsr ?_
     refine oV (v_move rfl) ?_
     refine oV (v_move rfl) ?_
     refine rl_upd (upd_tok) ?_
     refine asr_inv h fun q15 h => ?_
     refine oT (t_appC (l := ([(Tag.mk (2 : Int) a_number)] : (List Tag))) (m := a_tags) ap52_52 rfl (fun _ _ h => h) rfl (fun _ _ h => h) .here q15 fun t14 => ?_)
     refine oV (v_assign rfl) ?_
     refine oV (v_assign rfl) ?_
     refine rnf ?_
     refine w_ret ?_
     refine ret_post (.as rfl appv_isv (.tmp rfl .nil)) .nil ?_
     obtain rfl := Option.some.inj h
     exact ⟨rfl, rfl⟩
  ·
   refine rl_condM (j := 15) h rfl (fun g6 h => ?_) (fun g6 h => ?_)
   ·
    refine op_pass rfl (dj := 15) rfl g6 ?_
    refine op_pass rfl (dj := 15) rfl g6 ?_
    refine op_pass rfl (dj := 15) rfl g6 ?_
    refine op_passU rfl (dj := 18) rfl ?_
    refine op_passU rfl (dj := 18) rfl ?_
    refine op_passU rfl (dj := 18) rfl ?_
    refine op_pass rfl (dj := 15) rfl g6 ?_
    refine oV (v_pick_t rfl g6 rfl) ?_
    exact hJ5 _ () h _ (join_imp 8 rfl rfl (mod_cons (j := 23) rfl (fun _ _ h => h) mod_nil) .nil)
   ·
    refine op_take rfl rfl (dj := 15) rfl g6 (OpV.t (v_move rfl) ?_)
    refine op_take rfl rfl (dj := 15) rfl g6 (OpV.t (v_eql rfl rfl) ?_)
    refine op_take rfl rfl (dj := 15) rfl g6 (OpV.t (v_move rfl) ?_)
    refine rl_j (ι := Bool) (γ := Unit) (fun q7 g7 => [(22, isv (q7))]) (fun q7 g7 => []) .nil h 4 rfl (fun q7 g7 h => ?_) (fun J8 h hJ8 => ?_)
    ·
     refine oV (v_pick_f rfl g6 rfl) ?_
     exact hJ5 _ () h _ (join_imp 5 rfl rfl (mod_cons (j := 23) rfl (fun _ _ h => h) mod_nil) .nil)
    ·
     refine rl_condM (j := 18) h rfl (fun g9 h => ?_) (fun g9 h => ?_)
     ·
      refine op_take rfl rfl (dj := 18) rfl g9 (OpV.t (v_move rfl) ?_)
      refine op_take rfl rfl (dj := 18) rfl g9 (OpV.t (v_ln (l := a_tags) rfl (fun _ _ h => h) sl52) ?_)
      refine op_take rfl rfl (dj := 18) rfl g9 (OpV.t (v_eql rfl rfl) ?_)
      refine op_take rfl rfl (dj := 15) rfl g6 (OpV.t (v_pick_t rfl g9 rfl) ?_)
      exact hJ8 _ () h _ (join_imp 4 rfl rfl (mod_cons (j := 22) rfl (fun _ _ h => h) mod_nil) .nil)
     ·
      refine op_pass rfl (dj := 18) rfl g9 ?_
      refine op_pass rfl (dj := 18) rfl g9 ?_
      refine op_pass rfl (dj := 18) rfl g9 ?_
      refine op_take rfl rfl (dj := 15) rfl g6 (OpV.t (v_pick_f rfl g9 rfl) ?_)
      exact hJ8 _ () h _ (join_imp 4 rfl rfl (mod_cons (j := 22) rfl (fun _ _ h => h) mod_nil) .nil)
 ·
  refine rl_condM (j := 11) h rfl (fun g3 h => ?_) (fun g3 h => ?_)
  ·
   refine op_pass rfl (dj := 11) rfl g3 ?_
   refine op_pass rfl (dj := 11) rfl g3 ?_
   refine oV (v_pick_t rfl g3 rfl) ?_
   exact hJ2 _ () h _ (join_imp 3 rfl rfl (mod_cons (j := 14) rfl (fun _ _ h => h) mod_nil) .nil)
  ·
   refine op_take rfl rfl (dj := 11) rfl g3 (OpV.t (v_move rfl) ?_)
   refine op_take rfl rfl (dj := 11) rfl g3 (OpV.t (v_gtr rfl rfl) ?_)
   refine oV (v_pick_f rfl g3 rfl) ?_
   exact hJ2 _ () h _ (join_imp 3 rfl rfl (mod_cons (j := 14) rfl (fun _ _ h => h) mod_nil) .nil)


theorem r10_maker_wrap_w : ∀ {a_x : GMk} {a_i : Int} {a_number : Int} {a_mode : Int} {b_a_x : Nat} {v_a_x1 : Vt} {r : GMk}, r10_maker_wrap a_x a_i a_number a_mode = some r → Ctr Tryd.prog 87 [ptrv b_a_x (Fld.id (GMod × Vh × Int)), isv (a_i), isv (a_number), isv (a_mode)] [boxE b_a_x ((a_x.m, (Vh.mk v_a_x1 a_x.l.length), a_x.e) : (GMod × Vh × Int)), vecE v_a_x1 (a_x.l : List GTyp)] (fun R H => R = oneOf [] ∧ H = [boxE b_a_x ((r.m, (Vh.mk v_a_x1 r.l.length), r.e)), vecE v_a_x1 (r.l)]) := by
 intro a_x a_i a_number a_mode b_a_x v_a_x1 r h
 unfold r10_maker_wrap at h
 refine spec_intro Tryd.func87 rfl (by decide +kernel) (by rfl) fun w0 S0 hT => ?_
 refine w_seq ?_
 refine wsr ?_
 refine oV (v_move rfl) ?_
 refine oV (v_nilCheck rfl) ?_
 refine oV (v_fa rfl pt113_0_2 fd113_2) ?_
 refine oT (t_loadC (R := isv (a_x.e)) ty30 rfl .here (fun _ _ h => h) ?_)
 refine oV (v_neq rfl rfl) ?_
 refine rnf ?_
 refine w_condM h rfl (fun _ h => ?_) (fun _ h => ?_)
 ·
  refine w_ret ?_
  refine ret_nxt ?_
  refine ret_post .nil (.cons .here (.cons .here .nil)) ?_
  obtain rfl := Option.some.inj h
  exact ⟨rfl, rfl⟩
 ·
  refine wkf ?_
  refine wsr ?_
  refine oV (v_move rfl) ?_
  refine oV (v_nilCheck rfl) ?_
  refine oV (v_fa rfl pt113_0_1 fd113_1) ?_
  refine oT (t_loadC (R := vecv v_a_x1 (a_x.l.length)) ty24 rfl .here isvV1 ?_)
  refine oV (v_move rfl) ?_
  refine asd_inv h fun q2 h => ?_
  refine oV (v_vidx (α := GTyp) sl24 rfl rfl q2.1 q2.2) ?_
  refine oV (v_fv rfl GTyp.f1 fd58_1) ?_
  refine cal_inv h fun y3 hy3 h => ?_
  refine oT (t_vload ty52 rfl (.there .here) hy3 ?_)
  refine oV (v_move rfl) ?_
  refine oV (v_move rfl) ?_
  refine cal_inv h fun y4 hy4 h => ?_
  refine oT (t_call (r09_Wrap_w hy4) hT (.same rfl (.same rfl (.same rfl .nil))) .nil (fun R H' hR => ?_))
  obtain ⟨rfl, rfl⟩ := hR
  refine oV (v_move rfl) ?_
  refine oV (v_extract rfl rfl) ?_
  refine oV (v_extract rfl rfl) ?_
  refine oV (v_assign rfl) ?_
  refine oV (v_assign rfl) ?_
  refine rnf ?_
  refine w_seq ?_
  refine wsr ?_
  refine oV (v_move rfl) ?_
  refine oV (v_neq rfl rfl) ?_
  refine rnf ?_
  refine w_condM h rfl (fun _ h => ?_) (fun _ h => ?_)
  ·
   refine wsr ?_
   refine oV (v_move rfl) ?_
   refine oV (v_move rfl) ?_
   refine cal_inv h fun y5 hy5 h => ?_
   refine oT (t_call (r10_maker_fail_w hy5) hT (.same rfl (.same rfl .nil)) (.cons .here (.cons .here .nil)) (fun R H' hR => ?_))
   obtain ⟨rfl, rfl⟩ := hR
   refine rnf ?_
   refine w_ret ?_
   refine ret_nxt ?_
   refine ret_post .nil (.cons .here (.cons .here .nil)) ?_
   obtain rfl := Option.some.inj h
   exact ⟨rfl, rfl⟩
  ·
   refine wkf ?_
   refine w_region ?_
   refine oV (v_move rfl) ?_
   refine oV (v_nilCheck rfl) ?_
   refine oV (v_fa rfl pt113_0_1 fd113_1) ?_
   refine oT (t_loadC (R := vecv v_a_x1 (a_x.l.length)) ty24 rfl .here isvV1 ?_)
   refine oV (v_move rfl) ?_
   refine oV (v_move rfl) ?_
   refine asd_inv h fun q6 h => ?_
   refine oV (v_vidx (α := GTyp) sl24 rfl rfl q6.1 q6.2) ?_
   refine oV (v_fv rfl GTyp.f1 fd58_1) ?_
   refine cal_inv h fun y7 hy7 h => ?_
   refine oT (t_vstore ty52 rfl rfl (.there .here) hy7 ?_)
   refine rl_upd (upd_box (y := ((a_x.m, (Vh.mk v_a_x1 (a_x.l.set a_i.toNat ({ y7 with tags := y4.1 })).length), a_x.e) : (GMod × Vh × Int))) (.there .here) (fun S => (Cv.pair Cv.id (Cv.pair (Cv.vhe (by first | rfl | simp)) Cv.id)))) ?_
   refine rl_nil ?_
   refine fin_post .nil (.cons .here (.cons .here .nil)) ?_
   obtain rfl := Option.some.inj h
   exact ⟨rfl, rfl⟩


def r10_wild_C (f' : (List GTyp) → Int → Option (Bool)) : Prop :=
 ∀ {a_l : (List GTyp)} {a_i : Int} {v_a_l : Vt} {r : Bool}, f' a_l a_i = some r → Ctr Tryd.prog 142 [vecv v_a_l (a_l.length), isv (a_i)] [vecE v_a_l (a_l : List GTyp)] (fun R H => R = oneOf [isv (r)] ∧ H = [vecE v_a_l (a_l : List GTyp)])
theorem r10_wild_w0 {r10_wild' : (List GTyp) → Int → Option (Bool)} (h_r10_wild : r10_wild_C r10_wild') : ∀ {a_l : (List GTyp)} {a_i : Int} {v_a_l : Vt} {r : Bool}, r10_wild_F r10_wild' a_l a_i = some r → Ctr Tryd.prog 142 [vecv v_a_l (a_l.length), isv (a_i)] [vecE v_a_l (a_l : List GTyp)] (fun R H => R = oneOf [isv (r)] ∧ H = [vecE v_a_l (a_l : List GTyp)]) := by
 intro a_l a_i v_a_l r h
 unfold r10_wild_F at h
 refine spec_intro Tryd.func142 rfl (by decide +kernel) (by rfl) fun w0 S0 hT => ?_
 refine wsr ?_
 refine oV (v_assign rfl) ?_
 refine rnf ?_
 refine w_seq ?_
 refine wsr ?_
 refine oV (v_move rfl) ?_
 refine oV (v_move rfl) ?_
 refine asd_inv h fun q1 h => ?_
 refine oV (v_vidx (α := GTyp) sl24 rfl rfl q1.1 q1.2) ?_
 refine oV (v_fv rfl GTyp.f0 fd58_0) ?_
 refine cal_inv h fun y2 hy2 h => ?_
 refine oT (t_vload ty3 rfl .here hy2 ?_)
 refine oV (v_neq rfl rfl) ?_
 refine oV (v_move rfl) ?_
 refine rl_j (ι := Bool) (γ := Unit) (fun q3 g3 => [(21, isv (q3))]) (fun q3 g3 => []) .nil h 8 rfl (fun q3 g3 h => ?_) (fun J4 h hJ4 => ?_)
 ·
  refine rnf ?_
  refine w_condM h rfl (fun _ h => ?_) (fun _ h => ?_)
  ·
   refine wsr ?_
   refine oV (v_assign rfl) ?_
   refine rnf ?_
   refine w_ret ?_
   refine ret_nxt ?_
   refine ret_post (.tmp rfl .nil) (.cons .here .nil) ?_
   obtain rfl := Option.some.inj h
   exact ⟨rfl, rfl⟩
  ·
   refine wkf ?_
   refine wsr ?_
   refine oV (v_move rfl) ?_
   refine oV (v_move rfl) ?_
   refine asd_inv h fun q8 h => ?_
   refine oV (v_vidx (α := GTyp) sl24 rfl rfl q8.1 q8.2) ?_
   refine oV (v_fv rfl GTyp.f6 fd58_6) ?_
   refine cal_inv h fun y9 hy9 h => ?_
   refine oT (t_vload ty4 rfl .here hy9 ?_)
   refine oV (v_assign rfl) ?_
   refine rnf ?_
   refine w_seq ?_
   refine wsr ?_
   refine oV (v_assign rfl) ?_
   refine rnf ?_
   refine w_block ?_
   refine w_lp (ι := Bool × Int) (γ := Unit) (fun q10 g10 => [(5, isv (q10.1)), (6, isv (q10.2))]) (fun q10 g10 => []) h () (mod_cons (j := 5) rfl (fun _ _ h => h) (mod_cons (j := 6) rfl (fun _ _ h => h) mod_nil)) .nil (fun L11 q10 g10 Q32 h hL11 eL11 rL11 => ?_)
   refine w_seq ?_
   refine wsr ?_
   refine oV (v_move rfl) ?_
   refine oV (v_move rfl) ?_
   refine oV (v_move rfl) ?_
   refine asd_inv h fun q22 h => ?_
   refine oV (v_vidx (α := GTyp) sl24 rfl rfl q22.1 q22.2) ?_
   refine oV (v_fv rfl GTyp.f4 fd58_4) ?_
   refine cal_inv h fun y23 hy23 h => ?_
   refine oT (t_vload ty56 rfl .here hy23 ?_)
   refine oV (v_ln (l := y23.fields) rfl (fun _ _ h => h) sl56) ?_
   refine oV (v_lss rfl rfl) ?_
   refine rnf ?_
   refine w_condM h rfl (fun _ h => ?_) (fun _ h => ?_)
   ·
    refine wkf ?_
    refine w_seq ?_
    refine w_block ?_
    refine w_region ?_
    refine oV (v_move rfl) ?_
    refine oV (v_move rfl) ?_
    refine rl_j (ι := Bool) (γ := Unit) (fun q24 g24 => [(50, isv (q24))]) (fun q24 g24 => []) .nil h 12 rfl (fun q24 g24 h => ?_) (fun J25 h hJ25 => ?_)
    ·
     refine oV (v_assign rfl) ?_
     refine rl_nil ?_
     refine fin_block ?_
     refine fin_nxt ?_
     refine w_region ?_
     refine oV (v_move rfl) ?_
     refine ck_inv h fun q31 h => ?_
     refine oV (v_add rfl rfl q31) ?_
     refine oV (v_assign rfl) ?_
     refine rl_nil ?_
     exact hL11 _ () h _ (join_imp 17 rfl rfl (mod_cons (j := 5) rfl (fun _ _ h => h) (mod_cons (j := 6) rfl (fun _ _ h => h) mod_nil)) (.cons .here .nil))
    ·
     refine rl_condM (j := 38) h rfl (fun g26 h => ?_) (fun g26 h => ?_)
     ·
      refine op_pass rfl (dj := 38) rfl g26 ?_
      refine op_pass rfl (dj := 38) rfl g26 ?_
      refine op_pass rfl (dj := 38) rfl g26 ?_
      refine op_pass rfl (dj := 38) rfl g26 ?_
      refine op_pass rfl (dj := 38) rfl g26 ?_
      refine op_pass rfl (dj := 38) rfl g26 ?_
      refine op_pass rfl (dj := 38) rfl g26 ?_
      refine op_pass rfl (dj := 38) rfl g26 ?_
      refine op_pass rfl (dj := 38) rfl g26 ?_
      refine op_pass rfl (dj := 38) rfl g26 ?_
      refine op_pass rfl (dj := 38) rfl g26 ?_
      refine oV (v_pick_t rfl g26 rfl) ?_
      exact hJ25 _ () h _ (join_imp 12 rfl rfl (mod_cons (j := 50) rfl (fun _ _ h => h) mod_nil) (.cons .here .nil))
     ·
      refine op_take rfl rfl (dj := 38) rfl g26 (OpV.t (v_move rfl) ?_)
      refine op_take rfl rfl (dj := 38) rfl g26 (OpV.t (v_move rfl) ?_)
      refine op_take rfl rfl (dj := 38) rfl g26 (OpV.t (v_move rfl) ?_)
      refine asd_inv h fun q27 h => ?_
      refine op_take rfl rfl (dj := 38) rfl g26 (OpV.t (v_vidx (α := GTyp) sl24 rfl rfl q27.1 q27.2) ?_)
      refine op_take rfl rfl (dj := 38) rfl g26 (OpV.t (v_fv rfl GTyp.f4 fd58_4) ?_)
      refine cal_inv h fun y28 hy28 h => ?_
      refine op_take rfl rfl (dj := 38) rfl g26 (t_vload ty56 rfl .here hy28 ?_)
      refine op_take rfl rfl (dj := 38) rfl g26 (OpV.t (v_move rfl) ?_)
      refine cal_inv h fun y29 hy29 h => ?_
      refine op_take rfl rfl (dj := 38) rfl g26 (OpV.t (v_ix (l := y28.fields) rfl (fun _ _ h => h) rfl sl56 hy29) ?_)
      refine op_take rfl rfl (dj := 38) rfl g26 (OpV.t (v_fi rfl GFld.f1 fd69_1 rfl (z := y29.ty)) ?_)
      refine op_take rfl rfl (dj := 38) rfl g26 (OpV.t (v_loadI ty3 rfl) ?_)
      refine cal_inv h fun y30 hy30 h => ?_
      refine op_take rfl rfl (dj := 38) rfl g26 (t_call (h_r10_wild hy30) hT (.cons rfl (fun _ _ h => vecvE (by first | rfl | simp) _ _ h) (.same rfl .nil)) (.cons .here .nil) (fun R H' hR => ?_))
      obtain ⟨rfl, rfl⟩ := hR
      refine oV (v_pick_f rfl g26 rfl) ?_
      exact hJ25 _ () h _ (join_imp 12 rfl rfl (mod_cons (j := 50) rfl (fun _ _ h => h) mod_nil) (.cons .here .nil))
   ·
    refine w_exit ?_
    refine exi_nxt ?_
    refine eL11 _ _ ?_
    refine exi_block ?_
    refine fin_nxt ?_
    refine wsr ?_
    refine oV (v_move rfl) ?_
    refine oV (v_assign rfl) ?_
    refine rnf ?_
    refine w_ret ?_
    refine ret_post (.tmp rfl .nil) (.cons .here .nil) ?_
    obtain rfl := Option.some.inj h
    exact ⟨rfl, rfl⟩
 ·
  refine rl_condM (j := 13) h rfl (fun g5 h => ?_) (fun g5 h => ?_)
  ·
   refine op_pass rfl (dj := 13) rfl g5 ?_
   refine op_pass rfl (dj := 13) rfl g5 ?_
   refine op_pass rfl (dj := 13) rfl g5 ?_
   refine op_pass rfl (dj := 13) rfl g5 ?_
   refine op_pass rfl (dj := 13) rfl g5 ?_
   refine op_pass rfl (dj := 13) rfl g5 ?_
   refine op_pass rfl (dj := 13) rfl g5 ?_
   refine oV (v_pick_t rfl g5 rfl) ?_
   exact hJ4 _ () h _ (join_imp 8 rfl rfl (mod_cons (j := 21) rfl (fun _ _ h => h) mod_nil) (.cons .here .nil))
  ·
   refine op_take rfl rfl (dj := 13) rfl g5 (OpV.t (v_move rfl) ?_)
   refine op_take rfl rfl (dj := 13) rfl g5 (OpV.t (v_move rfl) ?_)
   refine asd_inv h fun q6 h => ?_
   refine op_take rfl rfl (dj := 13) rfl g5 (OpV.t (v_vidx (α := GTyp) sl24 rfl rfl q6.1 q6.2) ?_)
   refine op_take rfl rfl (dj := 13) rfl g5 (OpV.t (v_fv rfl GTyp.f1 fd58_1) ?_)
   refine cal_inv h fun y7 hy7 h => ?_
   refine op_take rfl rfl (dj := 13) rfl g5 (t_vload ty52 rfl .here hy7 ?_)
   refine op_take rfl rfl (dj := 13) rfl g5 (OpV.t (v_ln (l := y7.tags) rfl (fun _ _ h => h) sl52) ?_)
   refine op_take rfl rfl (dj := 13) rfl g5 (OpV.t (v_gtr rfl rfl) ?_)
   refine oV (v_pick_f rfl g5 rfl) ?_
   exact hJ4 _ () h _ (join_imp 8 rfl rfl (mod_cons (j := 21) rfl (fun _ _ h => h) mod_nil) (.cons .here .nil))

theorem r10_wild_grp_w : ∀ n, r10_wild_C (r10_wild n)
 | 0 => fun h => (by cases h)
 | n + 1 => r10_wild_w0 (r10_wild_grp_w n)
theorem r10_wild_w (n : Nat) : r10_wild_C (r10_wild n) := (r10_wild_grp_w n)

def r10_begins_C (f' : (List GTyp) → Int → Option ((List Tag))) : Prop :=
 ∀ {a_l : (List GTyp)} {a_i : Int} {v_a_l : Vt} {r : (List Tag)}, f' a_l a_i = some r → Ctr Tryd.prog 74 [vecv v_a_l (a_l.length), isv (a_i)] [vecE v_a_l (a_l : List GTyp)] (fun R H => R = oneOf [isv (r)] ∧ H = [vecE v_a_l (a_l : List GTyp)])
theorem r10_begins_w0 {r10_begins' : (List GTyp) → Int → Option ((List Tag))} (h_r10_begins : r10_begins_C r10_begins') : ∀ {a_l : (List GTyp)} {a_i : Int} {v_a_l : Vt} {r : (List Tag)}, r10_begins_F r10_begins' a_l a_i = some r → Ctr Tryd.prog 74 [vecv v_a_l (a_l.length), isv (a_i)] [vecE v_a_l (a_l : List GTyp)] (fun R H => R = oneOf [isv (r)] ∧ H = [vecE v_a_l (a_l : List GTyp)]) := by
 intro a_l a_i v_a_l r h
 unfold r10_begins_F at h
 refine spec_intro Tryd.func74 rfl (by decide +kernel) (by rfl) fun w0 S0 hT => ?_
 refine wsr ?_
 refine oV (v_assign rfl) ?_
 refine rnf ?_
 refine w_seq ?_
 refine wsr ?_
 refine oV (v_move rfl) ?_
 refine oV (v_move rfl) ?_
 refine asd_inv h fun q1 h => ?_
 refine oV (v_vidx (α := GTyp) sl24 rfl rfl q1.1 q1.2) ?_
 refine oV (v_fv rfl GTyp.f1 fd58_1) ?_
 refine cal_inv h fun y2 hy2 h => ?_
 refine oT (t_vload ty52 rfl .here hy2 ?_)
 refine oV (v_ln (l := y2.tags) rfl (fun _ _ h => h) sl52) ?_
 refine oV (v_gtr rfl rfl) ?_
 refine rnf ?_
 refine w_condM h rfl (fun _ h => ?_) (fun _ h => ?_)
 ·
  refine wsr ?_
  refine oV (v_move rfl) ?_
  refine oV (v_move rfl) ?_
  refine asd_inv h fun q3 h => ?_
  refine oV (v_vidx (α := GTyp) sl24 rfl rfl q3.1 q3.2) ?_
  refine oV (v_fv rfl GTyp.f1 fd58_1) ?_
  refine cal_inv h fun y4 hy4 h => ?_
  refine oT (t_vload ty52 rfl .here hy4 ?_)
  refine asd_inv h fun q5 h => ?_
  refine oV (v_sl (l := y4.tags) rfl (fun _ _ h => h) sl52 (.inl ⟨rfl, rfl⟩) (.inr ⟨_, rfl, rfl⟩) q5.1 q5.2.1 q5.2.2) ?_
  refine oV (v_assign rfl) ?_
  refine rnf ?_
  refine w_ret ?_
  refine ret_nxt ?_
  refine ret_post (.tmp rfl .nil) (.cons .here .nil) ?_
  obtain rfl := Option.some.inj h
  exact ⟨rfl, rfl⟩
 ·
  refine wkf ?_
  refine wsr ?_
  refine oV (v_assign rfl) ?_
  refine rnf ?_
  refine w_seq ?_
  refine wsr ?_
  refine oV (v_assign rfl) ?_
  refine rnf ?_
  refine w_block ?_
  refine w_upd (upd_tok) ?_
  refine w_lp (ι := (List Tag) × Int) (γ := Tok) (fun q6 g6 => [(5, appv g6 (q6.1)), (6, isv (q6.2))]) (fun q6 g6 => [tokE g6]) h (none) (mod_cons (j := 5) rfl nilv_appv (mod_cons (j := 6) rfl (fun _ _ h => h) mod_nil)) (.cons .here .nil) (fun L7 q6 g6 Q27 h hL7 eL7 rL7 => ?_)
  refine w_seq ?_
  refine wsr ?_
  refine oV (v_move rfl) ?_
  refine oV (v_move rfl) ?_
  refine oV (v_move rfl) ?_
  refine asd_inv h fun q17 h => ?_
  refine oV (v_vidx (α := GTyp) sl24 rfl rfl q17.1 q17.2) ?_
  refine oV (v_fv rfl GTyp.f4 fd58_4) ?_
  refine cal_inv h fun y18 hy18 h => ?_
  refine oT (t_vload ty56 rfl (.there .here) hy18 ?_)
  refine oV (v_ln (l := y18.fields) rfl (fun _ _ h => h) sl56) ?_
  refine oV (v_lss rfl rfl) ?_
  refine rnf ?_
  refine w_condM h rfl (fun _ h => ?_) (fun _ h => ?_)
  ·
   refine wkf ?_
   refine w_seq ?_
   refine w_block ?_
   refine w_region ?_
   refine oV (v_move rfl) ?_
   refine oV (v_move rfl) ?_
   refine oV (v_move rfl) ?_
   refine oV (v_move rfl) ?_
   refine asd_inv h fun q19 h => ?_
   refine oV (v_vidx (α := GTyp) sl24 rfl rfl q19.1 q19.2) ?_
   refine oV (v_fv rfl GTyp.f4 fd58_4) ?_
   refine cal_inv h fun y20 hy20 h => ?_
   refine oT (t_vload ty56 rfl (.there .here) hy20 ?_)
   refine oV (v_move rfl) ?_
   refine cal_inv h fun y21 hy21 h => ?_
   refine oV (v_ix (l := y20.fields) rfl (fun _ _ h => h) rfl sl56 hy21) ?_
   refine oV (v_fi rfl GFld.f1 fd69_1 rfl (z := y21.ty)) ?_
   refine oV (v_loadI ty3 rfl) ?_
   refine cal_inv h fun y22 hy22 h => ?_
   refine oT (t_call (h_r10_begins hy22) hT (.cons rfl (fun _ _ h => vecvE (by first | rfl | simp) _ _ h) (.same rfl .nil)) (.cons (.there .here) .nil) (fun R H' hR => ?_))
   obtain ⟨rfl, rfl⟩ := hR
   refine asr_inv h fun q24 h => ?_
   refine oT (t_appC (l := q6.1) (m := y22) ap52_52 rfl (fun _ _ h => h) rfl (fun _ _ h => h) (.there .here) q24 fun t23 => ?_)
   refine oV (v_assign rfl) ?_
   refine rl_nil ?_
   refine fin_block ?_
   refine fin_nxt ?_
   refine w_region ?_
   refine oV (v_move rfl) ?_
   refine ck_inv h fun q25 h => ?_
   refine oV (v_add rfl rfl q25) ?_
   refine oV (v_assign rfl) ?_
   refine rl_nil ?_
   exact hL7 _ (t23) h _ (join_imp 27 rfl rfl (mod_cons (j := 5) rfl (fun _ _ h => h) (mod_cons (j := 6) rfl (fun _ _ h => h) mod_nil)) (.cons .here (.cons .here .nil)))
  ·
   refine w_exit ?_
   refine exi_nxt ?_
   refine eL7 _ _ ?_
   refine exi_block ?_
   refine fin_nxt ?_
   refine wsr ?_
   refine oV (v_move rfl) ?_
   refine oV (v_assign rfl) ?_
   refine rnf ?_
   refine w_ret ?_
   refine ret_post (.as rfl appv_isv .nil) (.cons (.there .here) .nil) ?_
   obtain rfl := Option.some.inj h
   exact ⟨rfl, rfl⟩

theorem r10_begins_grp_w : ∀ n, r10_begins_C (r10_begins n)
 | 0 => fun h => (by cases h)
 | n + 1 => r10_begins_w0 (r10_begins_grp_w n)
theorem r10_begins_w (n : Nat) : r10_begins_C (r10_begins n) := (r10_begins_grp_w n)

theorem h_In_api_Tag_w : ∀ {a_l : (List Tag)} {a_x : Tag} {r : Bool}, h_In_api_Tag a_l a_x = some r → Ctr Tryd.prog 144 [isv (a_l), isv (a_x)] [] (fun R H => R = oneOf [isv (r)] ∧ H = []) := by
 intro a_l a_x r h
 unfold h_In_api_Tag at h
 refine spec_intro Tryd.func144 rfl (by decide +kernel) (by rfl) fun w0 S0 hT => ?_
 refine wsr ?_
 refine oT (t_boxIC (y := a_x) rfl (fun _ _ h => h) ?_)
 refine oV (v_assign rfl) ?_
 refine rnf ?_
 refine w_seq ?_
 refine wsr ?_
 refine oV (v_assign rfl) ?_
 refine rnf ?_
 refine w_block ?_
 refine w_lp (ι := Int) (γ := Unit) (fun q1 g1 => [(5, isv (q1))]) (fun q1 g1 => []) h () (mod_cons (j := 5) rfl (fun _ _ h => h) mod_nil) .nil (fun L2 q1 g1 Q7 h hL2 eL2 rL2 => ?_)
 refine w_seq ?_
 refine wsr ?_
 refine oV (v_move rfl) ?_
 refine oV (v_move rfl) ?_
 refine oV (v_ln (l := a_l) rfl (fun _ _ h => h) sl52) ?_
 refine oV (v_lss rfl rfl) ?_
 refine rnf ?_
 refine w_condM h rfl (fun _ h => ?_) (fun _ h => ?_)
 ·
  refine wkf ?_
  refine w_seq ?_
  refine w_block ?_
  refine w_seq ?_
  refine w_regionD (.v 0 (.v 1 (.v 2 (.v 3 (.v 4 (.v 5 .nil)))))) moOrd (by kernel_rfl) ?_
  refine rd_v rfl (v_move rfl) ?_
  refine rd_v rfl (v_move rfl) ?_
  refine cal_inv h fun y5 hy5 h => ?_
  refine rd_v rfl (v_ix (l := a_l) rfl (fun _ _ h => h) rfl sl52 hy5) ?_
  refine rd_v rfl (v_loadI ty61 rfl) ?_
  refine rd_v rfl (v_loadI ty61 rfl) ?_
  refine rd_v rfl (v_eqA eq61 rfl rfl) ?_
  refine rd_nil ?_
  refine fin_nxt ?_
  refine w_condM h rfl (fun _ h => ?_) (fun _ h => ?_)
  ·
   refine wsr ?_
   refine oV (v_assign rfl) ?_
   refine rnf ?_
   refine w_ret ?_
   refine ret_block ?_
   refine ret_nxt ?_
   refine rL2 _ ?_
   refine ret_block ?_
   refine ret_nxt ?_
   refine ret_post (.tmp rfl .nil) .nil ?_
   obtain rfl := Option.some.inj h
   exact ⟨rfl, rfl⟩
  ·
   refine w_skip ?_
   refine fin_block ?_
   refine fin_nxt ?_
   refine w_region ?_
   refine oV (v_move rfl) ?_
   refine ck_inv h fun q6 h => ?_
   refine oV (v_add rfl rfl q6) ?_
   refine oV (v_assign rfl) ?_
   refine rl_nil ?_
   exact hL2 _ () h _ (join_imp 14 rfl rfl (mod_cons (j := 5) rfl (fun _ _ h => h) mod_nil) .nil)
 ·
  refine w_exit ?_
  refine exi_nxt ?_
  refine eL2 _ _ ?_
  refine exi_block ?_
  refine fin_nxt ?_
  refine wsr ?_
  refine oV (v_assign rfl) ?_
  refine rnf ?_
  refine w_ret ?_
  refine ret_post (.tmp rfl .nil) .nil ?_
  obtain rfl := Option.some.inj h
  exact ⟨rfl, rfl⟩


theorem r09_Distinct_w : ∀ {a_sets : (List (List Tag))} {r : Bool}, r09_Distinct a_sets = some r → Ctr Tryd.prog 143 [isv (a_sets)] [] (fun R H => R = oneOf [isv (r)] ∧ H = []) := by
 intro a_sets r h
 unfold r09_Distinct at h
 refine spec_intro Tryd.func143 rfl (by decide +kernel) (by rfl) fun w0 S0 hT => ?_
 refine wsr ?_
 refine oV (v_assign rfl) ?_
 refine rnf ?_
 refine wsr ?_
 refine oV (v_assign rfl) ?_
 refine rnf ?_
 refine w_seq ?_
 refine wsr ?_
 refine oV (v_assign rfl) ?_
 refine rnf ?_
 refine w_block ?_
 refine w_upd (upd_tok) ?_
 refine w_lp (ι := (List Tag) × Int) (γ := Tok) (fun q1 g1 => [(3, appv g1 (q1.1)), (4, isv (q1.2))]) (fun q1 g1 => [tokE g1]) h (none) (mod_cons (j := 3) rfl nilv_appv (mod_cons (j := 4) rfl (fun _ _ h => h) mod_nil)) (.cons .here .nil) (fun L2 q1 g1 Q55 h hL2 eL2 rL2 => ?_)
 refine w_seq ?_
 refine wsr ?_
 refine oV (v_move rfl) ?_
 refine oV (v_move rfl) ?_
 refine oV (v_ln (l := a_sets) rfl (fun _ _ h => h) sl194) ?_
 refine oV (v_lss rfl rfl) ?_
 refine rnf ?_
 refine w_condM h rfl (fun _ h => ?_) (fun _ h => ?_)
 ·
  refine wkf ?_
  refine w_seq ?_
  refine w_block ?_
  refine wsr ?_
  refine oV (v_assign rfl) ?_
  refine rnf ?_
  refine w_block ?_
  refine w_lp (ι := (List Tag) × Int) (γ := Tok) (fun q29 g29 => [(3, appv g29 (q29.1)), (5, isv (q29.2))]) (fun q29 g29 => [tokE g29]) h (g1) (mod_cons (j := 3) rfl (fun _ _ h => h) (mod_cons (j := 5) rfl (fun _ _ h => h) mod_nil)) (.cons .here .nil) (fun L30 q29 g29 Q53 h hL30 eL30 rL30 => ?_)
  refine w_seq ?_
  refine wsr ?_
  refine oV (v_move rfl) ?_
  refine oV (v_move rfl) ?_
  refine oV (v_move rfl) ?_
  refine cal_inv h fun y42 hy42 h => ?_
  refine oV (v_ix (l := a_sets) rfl (fun _ _ h => h) rfl sl194 hy42) ?_
  refine oV (v_loadI ty52 rfl) ?_
  refine oV (v_ln (l := y42) rfl (fun _ _ h => h) sl52) ?_
  refine oV (v_lss rfl rfl) ?_
  refine rnf ?_
  refine w_condM h rfl (fun _ h => ?_) (fun _ h => ?_)
  ·
   refine wkf ?_
   refine w_seq ?_
   refine w_block ?_
   refine w_seq ?_
   refine wsr ?_
   refine oV (v_move rfl) ?_
   refine oV (v_move rfl) ?_
   refine oV (v_move rfl) ?_
   refine cal_inv h fun y43 hy43 h => ?_
   refine oV (v_ix (l := a_sets) rfl (fun _ _ h => h) rfl sl194 hy43) ?_
   refine oV (v_loadI ty52 rfl) ?_
   refine oV (v_move rfl) ?_
   refine cal_inv h fun y44 hy44 h => ?_
   refine oV (v_ix (l := y43) rfl (fun _ _ h => h) rfl sl52 hy44) ?_
   refine oV (v_loadI ty61 rfl) ?_
   refine cal_inv h fun y45 hy45 h => ?_
   refine oT (t_call (h_In_api_Tag_w hy45) hT (.cons rfl appv_isv (.same rfl .nil)) .nil (fun R H' hR => ?_))
   obtain ⟨rfl, rfl⟩ := hR
   refine rnf ?_
   refine w_condM h rfl (fun _ h => ?_) (fun _ h => ?_)
   ·
    refine wsr ?_
    refine oV (v_assign rfl) ?_
    refine rnf ?_
    refine w_ret ?_
    refine ret_nxt ?_
    refine ret_block ?_
    refine ret_nxt ?_
    refine rL30 _ ?_
    refine ret_block ?_
    refine ret_block ?_
    refine ret_nxt ?_
    refine rL2 _ ?_
    refine ret_block ?_
    refine ret_nxt ?_
    refine ret_post (.tmp rfl .nil) .nil ?_
    obtain rfl := Option.some.inj h
    exact ⟨rfl, rfl⟩
   ·
    refine wkf ?_
    refine w_region ?_
    refine oV (v_move rfl) ?_
    refine oV (v_move rfl) ?_
    refine oV (v_move rfl) ?_
    refine cal_inv h fun y46 hy46 h => ?_
    refine oV (v_ix (l := a_sets) rfl (fun _ _ h => h) rfl sl194 hy46) ?_
    refine oV (v_loadI ty52 rfl) ?_
    refine oV (v_move rfl) ?_
    refine cal_inv h fun y47 hy47 h => ?_
    refine oV (v_ix (l := y46) rfl (fun _ _ h => h) rfl sl52 hy47) ?_
    refine oV (v_loadI ty61 rfl) ?_
    refine oT (t_buildSlice (l := ([y47] : (List Tag))) el52 (.cons rfl (fun _ _ h => h) .nil) rfl rfl ?_)
    refine asr_inv h fun q50 h => ?_
    refine oT (t_appC (l := q29.1) (m := ([y47] : (List Tag))) ap52_52 rfl (fun _ _ h => h) rfl appv_isv .here q50 fun t49 => ?_)
    refine oV (v_assign rfl) ?_
    refine rl_nil ?_
    refine fin_block ?_
    refine fin_nxt ?_
    refine w_region ?_
    refine oV (v_move rfl) ?_
    refine ck_inv h fun q51 h => ?_
    refine oV (v_add rfl rfl q51) ?_
    refine oV (v_assign rfl) ?_
    refine rl_nil ?_
    exact hL30 _ (t49) h _ (join_imp 32 rfl rfl (mod_cons (j := 3) rfl (fun _ _ h => h) (mod_cons (j := 5) rfl (fun _ _ h => h) mod_nil)) (.cons .here .nil))
  ·
   refine w_exit ?_
   refine exi_nxt ?_
   refine eL30 _ _ ?_
   refine exi_block ?_
   refine fin_block ?_
   refine fin_nxt ?_
   refine w_region ?_
   refine oV (v_move rfl) ?_
   refine ck_inv h fun q52 h => ?_
   refine oV (v_add rfl rfl q52) ?_
   refine oV (v_assign rfl) ?_
   refine rl_nil ?_
   exact hL2 _ (g29) h _ (join_imp 19 rfl rfl (mod_cons (j := 3) rfl (fun _ _ h => h) (mod_cons (j := 4) rfl (fun _ _ h => h) mod_nil)) (.cons .here .nil))
 ·
  refine w_exit ?_
  refine exi_nxt ?_
  refine eL2 _ _ ?_
  refine exi_block ?_
  refine fin_nxt ?_
  refine wsr ?_
  refine oV (v_assign rfl) ?_
  refine rnf ?_
  refine w_ret ?_
  refine ret_post (.tmp rfl .nil) .nil ?_
  obtain rfl := Option.some.inj h
  exact ⟨rfl, rfl⟩


theorem r10_maker_told_w : ∀ {a_x : GMk} {a_l : (List GFld)} {a_open_ : Bool} {b_a_x : Nat} {v_a_x1 : Vt} {r : Bool × GMk}, r10_maker_told a_x a_l a_open_ = some r → Ctr Tryd.prog 136 [ptrv b_a_x (Fld.id (GMod × Vh × Int)), isv (a_l), isv (a_open_)] [boxE b_a_x ((a_x.m, (Vh.mk v_a_x1 a_x.l.length), a_x.e) : (GMod × Vh × Int)), vecE v_a_x1 (a_x.l : List GTyp)] (fun R H => R = oneOf [isv (r.1)] ∧ H = [boxE b_a_x ((r.2.m, (Vh.mk v_a_x1 r.2.l.length), r.2.e)), vecE v_a_x1 (r.2.l)]) := by
 intro a_x a_l a_open_ b_a_x v_a_x1 r h
 unfold r10_maker_told at h
 refine spec_intro Tryd.func136 rfl (by decide +kernel) (by rfl) fun w0 S0 hT => ?_
 refine wsr ?_
 refine oV (v_assign rfl) ?_
 refine rnf ?_
 refine wsr ?_
 refine oV (v_assign rfl) ?_
 refine rnf ?_
 refine w_seq ?_
 refine wsr ?_
 refine oV (v_assign rfl) ?_
 refine rnf ?_
 refine w_block ?_
 refine w_upd (upd_tok) ?_
 refine w_lp (ι := (List (List Tag)) × Int) (γ := Tok) (fun q2 g2 => [(0, ptrv b_a_x (Fld.id (GMod × Vh × Int))), (7, appv g2 (q2.1)), (8, isv (q2.2))]) (fun q2 g2 => [tokE g2]) h (none) (mod_cons (j := 0) rfl (fun _ _ h => h) (mod_cons (j := 7) rfl nilv_appv (mod_cons (j := 8) rfl (fun _ _ h => h) mod_nil))) (.cons .here .nil) (fun L3 q2 g2 Q43 h hL3 eL3 rL3 => ?_)
 refine w_seq ?_
 refine wsr ?_
 refine oV (v_move rfl) ?_
 refine oV (v_move rfl) ?_
 refine oV (v_ln (l := a_l) rfl (fun _ _ h => h) sl56) ?_
 refine oV (v_lss rfl rfl) ?_
 refine rnf ?_
 refine w_condM h rfl (fun _ h => ?_) (fun _ h => ?_)
 ·
  refine wkf ?_
  refine w_seq ?_
  refine w_block ?_
  refine w_seq ?_
  refine w_seq ?_
  refine w_pinN 0 (.there .here) rfl (fun o23 hn24 => ?_)
  refine w_regionD (.v 0 (.v 1 (.v 2 (.v 3 (.v 4 (.v 5 (.v 6 (.v 7 (.v 8 (.t 9 (.v 10 (.v 11 (.v 12 (.v 13 (.v 14 (.v 15 (.v 16 (.v 17 .nil)))))))))))))))))) moOrd (by kernel_rfl) ?_
  refine rd_v rfl (v_move rfl) ?_
  refine rd_v rfl (v_nilCheckP rfl) ?_
  refine rd_v rfl (v_fp rfl pt113_0_1 fd113_1) ?_
  refine rd_v rfl (v_lpC (R := vecv v_a_x1 (a_x.l.length)) ty24 rfl (List.Mem.head _) isvV1) ?_
  refine rd_v rfl (v_move rfl) ?_
  refine rd_v rfl (v_move rfl) ?_
  refine cal_inv h fun y25 hy25 h => ?_
  refine rd_v rfl (v_ix (l := a_l) rfl (fun _ _ h => h) rfl sl56 hy25) ?_
  refine rd_v rfl (v_fi rfl GFld.f1 fd69_1 rfl (z := y25.ty)) ?_
  refine rd_v rfl (v_loadI ty3 rfl) ?_
  refine cal_inv h fun y26 hy26 h => ?_
  refine rd_t rfl rfl (t_call (r10_wild_w fuel hy26) hT (.cons rfl (fun _ _ h => vecvE (by first | rfl | simp) _ _ h) (.same rfl .nil)) (.cons (.there .here) .nil) (fun R H' hR => ?_))
  obtain ⟨rfl, rfl⟩ := hR
  refine rd_v rfl (v_move rfl) ?_
  refine rd_j (ι := Bool) (γ := Unit) (fun q27 g27 => [(32, isv (q27))]) (fun q27 g27 => []) .nil h 7 rfl (fun q27 g27 h => ?_) (fun J28 h hJ28 => ?_)
  ·
   refine rd_nil ?_
   refine fin_unpinN 0 hn24 rfl ?_
   refine fin_nxt ?_
   refine w_condM h rfl (fun _ h => ?_) (fun _ h => ?_)
   ·
    refine wsr ?_
    refine oV (v_assign rfl) ?_
    refine rnf ?_
    refine w_ret ?_
    refine ret_nxt ?_
    refine ret_block ?_
    refine ret_nxt ?_
    refine rL3 _ ?_
    refine ret_block ?_
    refine ret_nxt ?_
    refine ret_post (.tmp rfl .nil) (.cons .here (.cons .here .nil)) ?_
    obtain rfl := Option.some.inj h
    exact ⟨rfl, rfl⟩
   ·
    refine wkf ?_
    refine w_pinN 0 .here rfl (fun o33 hn34 => ?_)
    refine w_regionD (.v 0 (.v 1 (.v 2 (.v 3 (.v 4 (.v 5 (.v 6 (.v 7 (.v 8 (.v 9 (.t 10 (.t 11 (.t 12 (.v 13 .nil)))))))))))))) moOrd (by kernel_rfl) ?_
    refine rd_v rfl (v_move rfl) ?_
    refine rd_v rfl (v_move rfl) ?_
    refine rd_v rfl (v_nilCheckP rfl) ?_
    refine rd_v rfl (v_fp rfl pt113_0_1 fd113_1) ?_
    refine rd_v rfl (v_lpC (R := vecv v_a_x1 (a_x.l.length)) ty24 rfl (List.Mem.head _) isvV1) ?_
    refine rd_v rfl (v_move rfl) ?_
    refine rd_v rfl (v_move rfl) ?_
    refine cal_inv h fun y35 hy35 h => ?_
    refine rd_v rfl (v_ix (l := a_l) rfl (fun _ _ h => h) rfl sl56 hy35) ?_
    refine rd_v rfl (v_fi rfl GFld.f1 fd69_1 rfl (z := y35.ty)) ?_
    refine rd_v rfl (v_loadI ty3 rfl) ?_
    refine cal_inv h fun y36 hy36 h => ?_
    refine rd_t rfl rfl (t_call (r10_begins_w fuel hy36) hT (.cons rfl (fun _ _ h => vecvE (by first | rfl | simp) _ _ h) (.same rfl .nil)) (.cons .here .nil) (fun R H' hR => ?_))
    obtain ⟨rfl, rfl⟩ := hR
    refine rd_t rfl rfl (t_buildSlice (l := ([y36] : (List (List Tag)))) el194 (.cons rfl (fun _ _ h => h) .nil) rfl rfl ?_)
    refine asr_inv h fun q39 h => ?_
    refine rd_t rfl rfl (t_appC (l := q2.1) (m := ([y36] : (List (List Tag)))) ap194_194 rfl (fun _ _ h => h) rfl appv_isv (.there .here) q39 fun t38 => ?_)
    refine rd_v rfl (v_assign rfl) ?_
    refine rd_nil ?_
    refine fin_unpinN 0 hn34 rfl ?_
    refine fin_block ?_
    refine fin_nxt ?_
    refine w_region ?_
    refine oV (v_move rfl) ?_
    refine ck_inv h fun q40 h => ?_
    refine oV (v_add rfl rfl q40) ?_
    refine oV (v_assign rfl) ?_
    refine rl_nil ?_
    exact hL3 _ (t38) h _ (join_imp 40 rfl rfl (mod_cons (j := 0) rfl (fun _ _ h => h) (mod_cons (j := 7) rfl (fun _ _ h => h) (mod_cons (j := 8) rfl (fun _ _ h => h) mod_nil))) (.cons (.there .here) (.cons .here (.cons .here .nil))))
  ·
   refine rd_condM (j := 25) h rfl (fun g29 h => ?_) (fun g29 h => ?_)
   ·
    refine rd_vt rfl rfl (dj := 25) rfl g29 (v_move rfl) ?_
    refine rd_vt rfl rfl (dj := 25) rfl g29 (v_move rfl) ?_
    refine rd_j (ι := Bool) (γ := Unit) (fun q30 g30 => [(31, isv (q30))]) (fun q30 g30 => []) .nil h 4 rfl (fun q30 g30 h => ?_) (fun J31 h hJ31 => ?_)
    ·
     refine rd_v rfl (v_pick_t rfl g29 rfl) ?_
     exact hJ28 _ () h _ (join_imp 4 rfl rfl (mod_cons (j := 32) rfl (fun _ _ h => h) mod_nil) (.cons .here (.cons .here .nil)))
    ·
     refine rd_condM (j := 27) h rfl (fun g32 h => ?_) (fun g32 h => ?_)
     ·
      refine rd_passV rfl rfl (dj := 27) rfl g32 ?_
      refine rd_passV rfl rfl (dj := 27) rfl g32 ?_
      refine rd_passV rfl rfl (dj := 27) rfl g32 ?_
      refine rd_vt rfl rfl (dj := 25) rfl g29 (v_pick_t rfl g32 rfl) ?_
      exact hJ31 _ () h _ (join_imp 4 rfl rfl (mod_cons (j := 31) rfl (fun _ _ h => h) mod_nil) (.cons .here (.cons .here .nil)))
     ·
      refine rd_vt rfl rfl (dj := 27) rfl g32 (v_move rfl) ?_
      refine rd_vt rfl rfl (dj := 27) rfl g32 (v_ln (l := a_l) rfl (fun _ _ h => h) sl56) ?_
      refine rd_vt rfl rfl (dj := 27) rfl g32 (v_gtr rfl rfl) ?_
      refine rd_vt rfl rfl (dj := 25) rfl g29 (v_pick_f rfl g32 rfl) ?_
      exact hJ31 _ () h _ (join_imp 4 rfl rfl (mod_cons (j := 31) rfl (fun _ _ h => h) mod_nil) (.cons .here (.cons .here .nil)))
   ·
    refine rd_passV rfl rfl (dj := 25) rfl g29 ?_
    refine rd_passV rfl rfl (dj := 25) rfl g29 ?_
    refine rd_passUV rfl rfl (dj := 27) rfl ?_
    refine rd_passUV rfl rfl (dj := 27) rfl ?_
    refine rd_passUV rfl rfl (dj := 27) rfl ?_
    refine rd_passV rfl rfl (dj := 25) rfl g29 ?_
    refine rd_v rfl (v_pick_f rfl g29 rfl) ?_
    exact hJ28 _ () h _ (join_imp 7 rfl rfl (mod_cons (j := 32) rfl (fun _ _ h => h) mod_nil) (.cons .here (.cons .here .nil)))
 ·
  refine w_exit ?_
  refine exi_nxt ?_
  refine eL3 _ _ ?_
  refine exi_block ?_
  refine fin_nxt ?_
  refine wsr ?_
  refine oV (v_move rfl) ?_
  refine cal_inv h fun y41 hy41 h => ?_
  refine oT (t_call (r09_Distinct_w hy41) hT (.cons rfl appv_isv .nil) .nil (fun R H' hR => ?_))
  obtain ⟨rfl, rfl⟩ := hR
  refine oV (v_assign rfl) ?_
  refine rnf ?_
  refine w_ret ?_
  refine ret_post (.tmp rfl .nil) (.cons (.there .here) (.cons (.there .here) .nil)) ?_
  obtain rfl := Option.some.inj h
  exact ⟨rfl, rfl⟩


theorem r10_Loose_w : ∀ {a_t : GTyp} {r : (List Bool)}, r10_Loose a_t = some r → Ctr Tryd.prog 137 [isv (a_t)] [] (fun R H => R = oneOf [isv (r)] ∧ H = []) := by
 intro a_t r h
 unfold r10_Loose at h
 refine spec_intro Tryd.func137 rfl (by decide +kernel) (by rfl) fun w0 S0 hT => ?_
 refine wsr ?_
 refine oT (t_boxIC (y := a_t) rfl (fun _ _ h => h) ?_)
 refine oV (v_assign rfl) ?_
 refine rnf ?_
 refine wsr ?_
 refine oV (v_assign rfl) ?_
 refine rnf ?_
 refine w_seq ?_
 refine wsr ?_
 refine oV (v_assign rfl) ?_
 refine rnf ?_
 refine w_block ?_
 refine w_upd (upd_tok) ?_
 refine w_lp (ι := (List Bool) × Int) (γ := Tok) (fun q1 g1 => [(3, appv g1 (q1.1)), (4, isv (q1.2))]) (fun q1 g1 => [tokE g1]) h (none) (mod_cons (j := 3) rfl nilv_appv (mod_cons (j := 4) rfl (fun _ _ h => h) mod_nil)) (.cons .here .nil) (fun L2 q1 g1 Q28 h hL2 eL2 rL2 => ?_)
 refine w_seq ?_
 refine wsr ?_
 refine oV (v_move rfl) ?_
 refine oV (v_fi rfl GTyp.f4 fd58_4 rfl (z := a_t.fields)) ?_
 refine oV (v_loadI ty56 rfl) ?_
 refine oV (v_ln (l := a_t.fields) rfl (fun _ _ h => h) sl56) ?_
 refine oV (v_lss rfl rfl) ?_
 refine rnf ?_
 refine w_condM h rfl (fun _ h => ?_) (fun _ h => ?_)
 ·
  refine wkf ?_
  refine w_seq ?_
  refine w_block ?_
  refine w_region ?_
  refine oV (v_move rfl) ?_
  refine oV (v_fi rfl GTyp.f4 fd58_4 rfl (z := a_t.fields)) ?_
  refine oV (v_loadI ty56 rfl) ?_
  refine oV (v_move rfl) ?_
  refine cal_inv h fun y15 hy15 h => ?_
  refine oV (v_ix (l := a_t.fields) rfl (fun _ _ h => h) rfl sl56 hy15) ?_
  refine oV (v_fi rfl GFld.f2 fd69_2 rfl (z := y15.optional)) ?_
  refine oV (v_loadI ty4 rfl) ?_
  refine oV (v_move rfl) ?_
  refine rl_j (ι := Bool) (γ := Unit) (fun q16 g16 => [(26, isv (q16))]) (fun q16 g16 => []) .nil h 7 rfl (fun q16 g16 h => ?_) (fun J17 h hJ17 => ?_)
  ·
   refine oV (v_move rfl) ?_
   refine rl_j (ι := Bool) (γ := Unit) (fun q20 g20 => [(32, isv (q20))]) (fun q20 g20 => []) .nil h 5 rfl (fun q20 g20 h => ?_) (fun J21 h hJ21 => ?_)
   ·
    refine oT (t_buildSlice (l := ([q20] : (List Bool))) el189 (.cons rfl (fun _ _ h => h) .nil) rfl rfl ?_)
    refine asr_inv h fun q25 h => ?_
    refine oT (t_appC (l := q1.1) (m := ([q20] : (List Bool))) ap189_189 rfl (fun _ _ h => h) rfl appv_isv .here q25 fun t24 => ?_)
    refine oV (v_assign rfl) ?_
    refine rl_nil ?_
    refine fin_block ?_
    refine fin_nxt ?_
    refine w_region ?_
    refine oV (v_move rfl) ?_
    refine ck_inv h fun q26 h => ?_
    refine oV (v_add rfl rfl q26) ?_
    refine oV (v_assign rfl) ?_
    refine rl_nil ?_
    exact hL2 _ (t24) h _ (join_imp 24 rfl rfl (mod_cons (j := 3) rfl (fun _ _ h => h) (mod_cons (j := 4) rfl (fun _ _ h => h) mod_nil)) (.cons .here .nil))
   ·
    refine rl_condM (j := 27) h rfl (fun g22 h => ?_) (fun g22 h => ?_)
    ·
     refine op_pass rfl (dj := 27) rfl g22 ?_
     refine op_pass rfl (dj := 27) rfl g22 ?_
     refine op_pass rfl (dj := 27) rfl g22 ?_
     refine op_pass rfl (dj := 27) rfl g22 ?_
     refine oV (v_pick_t rfl g22 rfl) ?_
     exact hJ21 _ () h _ (join_imp 5 rfl rfl (mod_cons (j := 32) rfl (fun _ _ h => h) mod_nil) (.cons .here .nil))
    ·
     refine op_take rfl rfl (dj := 27) rfl g22 (OpV.t (v_move rfl) ?_)
     refine op_take rfl rfl (dj := 27) rfl g22 (OpV.t (v_fi rfl GTyp.f5 fd58_5 rfl (z := a_t.root)) ?_)
     refine op_take rfl rfl (dj := 27) rfl g22 (OpV.t (v_loadI ty3 rfl) ?_)
     refine op_take rfl rfl (dj := 27) rfl g22 (OpV.t (v_geq rfl rfl) ?_)
     refine oV (v_pick_f rfl g22 rfl) ?_
     exact hJ21 _ () h _ (join_imp 5 rfl rfl (mod_cons (j := 32) rfl (fun _ _ h => h) mod_nil) (.cons .here .nil))
  ·
   refine rl_condM (j := 19) h rfl (fun g18 h => ?_) (fun g18 h => ?_)
   ·
    refine op_pass rfl (dj := 19) rfl g18 ?_
    refine op_pass rfl (dj := 19) rfl g18 ?_
    refine op_pass rfl (dj := 19) rfl g18 ?_
    refine op_pass rfl (dj := 19) rfl g18 ?_
    refine op_pass rfl (dj := 19) rfl g18 ?_
    refine op_pass rfl (dj := 19) rfl g18 ?_
    refine oV (v_pick_t rfl g18 rfl) ?_
    exact hJ17 _ () h _ (join_imp 7 rfl rfl (mod_cons (j := 26) rfl (fun _ _ h => h) mod_nil) (.cons .here .nil))
   ·
    refine op_take rfl rfl (dj := 19) rfl g18 (OpV.t (v_fi rfl GTyp.f4 fd58_4 rfl (z := a_t.fields)) ?_)
    refine op_take rfl rfl (dj := 19) rfl g18 (OpV.t (v_loadI ty56 rfl) ?_)
    refine op_take rfl rfl (dj := 19) rfl g18 (OpV.t (v_move rfl) ?_)
    refine cal_inv h fun y19 hy19 h => ?_
    refine op_take rfl rfl (dj := 19) rfl g18 (OpV.t (v_ix (l := a_t.fields) rfl (fun _ _ h => h) rfl sl56 hy19) ?_)
    refine op_take rfl rfl (dj := 19) rfl g18 (OpV.t (v_fi rfl GFld.f3 fd69_3 rfl (z := y19.has)) ?_)
    refine op_take rfl rfl (dj := 19) rfl g18 (OpV.t (v_loadI ty4 rfl) ?_)
    refine oV (v_pick_f rfl g18 rfl) ?_
    exact hJ17 _ () h _ (join_imp 7 rfl rfl (mod_cons (j := 26) rfl (fun _ _ h => h) mod_nil) (.cons .here .nil))
 ·
  refine w_exit ?_
  refine exi_nxt ?_
  refine eL2 _ _ ?_
  refine exi_block ?_
  refine fin_nxt ?_
  refine wsr ?_
  refine oV (v_move rfl) ?_
  refine oV (v_assign rfl) ?_
  refine rnf ?_
  refine w_ret ?_
  refine ret_post (.as rfl appv_isv .nil) .nil ?_
  obtain rfl := Option.some.inj h
  exact ⟨rfl, rfl⟩


theorem r10_Last_w : ∀ {a_t : GTyp} {r : Int}, r10_Last a_t = some r → Ctr Tryd.prog 138 [isv (a_t)] [] (fun R H => R = oneOf [isv (r)] ∧ H = []) := by
 intro a_t r h
 unfold r10_Last at h
 refine spec_intro Tryd.func138 rfl (by decide +kernel) (by rfl) fun w0 S0 hT => ?_
 refine wsr ?_
 refine oT (t_boxIC (y := a_t) rfl (fun _ _ h => h) ?_)
 refine oV (v_assign rfl) ?_
 refine rnf ?_
 refine wsr ?_
 refine oV (v_loadI ty58 rfl) ?_
 refine cal_inv h fun y1 hy1 h => ?_
 refine oT (t_call (r10_Loose_w hy1) hT (.same rfl .nil) .nil (fun R H' hR => ?_))
 obtain ⟨rfl, rfl⟩ := hR
 refine oV (v_assign rfl) ?_
 refine rnf ?_
 refine wsr ?_
 refine oV (v_fi rfl GTyp.f5 fd58_5 rfl (z := a_t.root)) ?_
 refine oV (v_loadI ty3 rfl) ?_
 refine oV (v_assign rfl) ?_
 refine rnf ?_
 refine w_seq ?_
 refine w_block ?_
 refine w_lp (ι := Int) (γ := Unit) (fun q2 g2 => [(4, isv (q2))]) (fun q2 g2 => []) h () (mod_cons (j := 4) rfl (fun _ _ h => h) mod_nil) .nil (fun L3 q2 g2 Q16 h hL3 eL3 rL3 => ?_)
 refine w_seq ?_
 refine wsr ?_
 refine oV (v_move rfl) ?_
 refine oV (v_gtr rfl rfl) ?_
 refine oV (v_move rfl) ?_
 refine rl_j (ι := Bool) (γ := Unit) (fun q10 g10 => [(17, isv (q10))]) (fun q10 g10 => []) .nil h 6 rfl (fun q10 g10 h => ?_) (fun J11 h hJ11 => ?_)
 ·
  refine rnf ?_
  refine w_condM h rfl (fun _ h => ?_) (fun _ h => ?_)
  ·
   refine wkf ?_
   refine w_block ?_
   refine w_region ?_
   refine oV (v_move rfl) ?_
   refine ck_inv h fun q15 h => ?_
   refine oV (v_sub rfl rfl q15) ?_
   refine oV (v_assign rfl) ?_
   refine rl_nil ?_
   refine fin_block ?_
   exact hL3 _ () h _ (join_imp 8 rfl rfl (mod_cons (j := 4) rfl (fun _ _ h => h) mod_nil) .nil)
  ·
   refine w_exit ?_
   refine exi_nxt ?_
   refine eL3 _ _ ?_
   refine exi_block ?_
   refine fin_nxt ?_
   refine wsr ?_
   refine oV (v_move rfl) ?_
   refine oV (v_assign rfl) ?_
   refine rnf ?_
   refine w_ret ?_
   refine ret_post (.tmp rfl .nil) .nil ?_
   obtain rfl := Option.some.inj h
   exact ⟨rfl, rfl⟩
 ·
  refine rl_condM (j := 11) h rfl (fun g12 h => ?_) (fun g12 h => ?_)
  ·
   refine op_take rfl rfl (dj := 11) rfl g12 (OpV.t (v_move rfl) ?_)
   refine op_take rfl rfl (dj := 11) rfl g12 (OpV.t (v_move rfl) ?_)
   refine ck_inv h fun q13 h => ?_
   refine op_take rfl rfl (dj := 11) rfl g12 (OpV.t (v_sub rfl rfl q13) ?_)
   refine cal_inv h fun y14 hy14 h => ?_
   refine op_take rfl rfl (dj := 11) rfl g12 (OpV.t (v_ix (l := y1) rfl (fun _ _ h => h) rfl sl189 hy14) ?_)
   refine op_take rfl rfl (dj := 11) rfl g12 (OpV.t (v_loadI ty4 rfl) ?_)
   refine oV (v_pick_t rfl g12 rfl) ?_
   exact hJ11 _ () h _ (join_imp 6 rfl rfl (mod_cons (j := 17) rfl (fun _ _ h => h) mod_nil) .nil)
  ·
   refine op_pass rfl (dj := 11) rfl g12 ?_
   refine op_pass rfl (dj := 11) rfl g12 ?_
   refine op_pass rfl (dj := 11) rfl g12 ?_
   refine op_pass rfl (dj := 11) rfl g12 ?_
   refine op_pass rfl (dj := 11) rfl g12 ?_
   refine oV (v_pick_f rfl g12 rfl) ?_
   exact hJ11 _ () h _ (join_imp 6 rfl rfl (mod_cons (j := 17) rfl (fun _ _ h => h) mod_nil) .nil)


theorem r10_maker_apart_w : ∀ {a_x : GMk} {a_t : GTyp} {b_a_x : Nat} {v_a_x1 : Vt} {r : Bool × GMk}, r10_maker_apart a_x a_t = some r → Ctr Tryd.prog 126 [ptrv b_a_x (Fld.id (GMod × Vh × Int)), isv (a_t)] [boxE b_a_x ((a_x.m, (Vh.mk v_a_x1 a_x.l.length), a_x.e) : (GMod × Vh × Int)), vecE v_a_x1 (a_x.l : List GTyp)] (fun R H => R = oneOf [isv (r.1)] ∧ H = [boxE b_a_x ((r.2.m, (Vh.mk v_a_x1 r.2.l.length), r.2.e)), vecE v_a_x1 (r.2.l)]) := by
 intro a_x a_t b_a_x v_a_x1 r h
 unfold r10_maker_apart at h
 refine spec_intro Tryd.func126 rfl (by decide +kernel) (by rfl) fun w0 S0 hT => ?_
 refine wsr ?_
 refine oT (t_boxIC (y := a_t) rfl (fun _ _ h => h) ?_)
 refine oV (v_assign rfl) ?_
 refine rnf ?_
 refine w_seq ?_
 refine wsr ?_
 refine oV (v_fi rfl GTyp.f0 fd58_0 rfl (z := a_t.kind)) ?_
 refine oV (v_loadI ty3 rfl) ?_
 refine oV (v_neq rfl rfl) ?_
 refine rnf ?_
 refine w_condM h rfl (fun _ h => ?_) (fun _ h => ?_)
 ·
  refine wsr ?_
  refine oV (v_move rfl) ?_
  refine oV (v_fi rfl GTyp.f4 fd58_4 rfl (z := a_t.fields)) ?_
  refine oV (v_loadI ty56 rfl) ?_
  refine oV (v_fi rfl GTyp.f6 fd58_6 rfl (z := a_t.more)) ?_
  refine oV (v_loadI ty4 rfl) ?_
  refine cal_inv h fun y2 hy2 h => ?_
  refine oT (t_call (r10_maker_told_w hy2) hT (.same rfl (.same rfl (.same rfl .nil))) (.cons .here (.cons .here .nil)) (fun R H' hR => ?_))
  obtain ⟨rfl, rfl⟩ := hR
  refine oV (v_assign rfl) ?_
  refine rnf ?_
  refine w_ret ?_
  refine ret_nxt ?_
  refine ret_post (.tmp rfl .nil) (.cons .here (.cons .here .nil)) ?_
  obtain rfl := Option.some.inj h
  exact ⟨rfl, rfl⟩
 ·
  refine wkf ?_
  refine wsr ?_
  refine oV (v_loadI ty58 rfl) ?_
  refine cal_inv h fun y3 hy3 h => ?_
  refine oT (t_call (r10_Loose_w hy3) hT (.same rfl .nil) .nil (fun R H' hR => ?_))
  obtain ⟨rfl, rfl⟩ := hR
  refine oV (v_assign rfl) ?_
  refine rnf ?_
  refine w_seq ?_
  refine wsr ?_
  refine oV (v_assign rfl) ?_
  refine rnf ?_
  refine w_block ?_
  refine w_lp (ι := Int × GMk) (γ := Unit) (fun q4 g4 => [(6, isv (q4.1))]) (fun q4 g4 => [boxE b_a_x ((q4.2.m, (Vh.mk v_a_x1 q4.2.l.length), q4.2.e) : (GMod × Vh × Int)), vecE v_a_x1 (q4.2.l : List GTyp)]) h () (mod_cons (j := 6) rfl (fun _ _ h => h) mod_nil) (.cons .here (.cons .here .nil)) (fun L5 q4 g4 Q66 h hL5 eL5 rL5 => ?_)
  refine w_seq ?_
  refine wsr ?_
  refine oV (v_move rfl) ?_
  refine oV (v_fi rfl GTyp.f4 fd58_4 rfl (z := a_t.fields)) ?_
  refine oV (v_loadI ty56 rfl) ?_
  refine oV (v_ln (l := a_t.fields) rfl (fun _ _ h => h) sl56) ?_
  refine oV (v_lss rfl rfl) ?_
  refine rnf ?_
  refine w_condM h rfl (fun _ h => ?_) (fun _ h => ?_)
  ·
   refine wkf ?_
   refine w_seq ?_
   refine w_J (ι := GMk) (γ := Unit) (fun q36 g36 => []) (fun q36 g36 => [boxE b_a_x ((q36.m, (Vh.mk v_a_x1 q36.l.length), q36.e) : (GMod × Vh × Int)), vecE v_a_x1 (q36.l : List GTyp)]) (.cons .here (.cons .here .nil)) h (fun q36 g36 h => ?_) (fun J37 h hJ37 => ?_)
   ·
    refine w_region ?_
    refine oV (v_move rfl) ?_
    refine ck_inv h fun q59 h => ?_
    refine oV (v_add rfl rfl q59) ?_
    refine oV (v_assign rfl) ?_
    refine rl_nil ?_
    exact hL5 _ () h _ (join_imp 9 rfl rfl (mod_cons (j := 6) rfl (fun _ _ h => h) mod_nil) (.cons .here (.cons .here .nil)))
   ·
    refine w_block ?_
    refine w_seq ?_
    refine wsr ?_
    refine oV (v_move rfl) ?_
    refine oV (v_move rfl) ?_
    refine cal_inv h fun y38 hy38 h => ?_
    refine oV (v_ix (l := y3) rfl (fun _ _ h => h) rfl sl189 hy38) ?_
    refine oV (v_loadI ty4 rfl) ?_
    refine oV (v_not rfl) ?_
    refine rnf ?_
    refine w_condM h rfl (fun _ h => ?_) (fun _ h => ?_)
    ·
     refine w_exit ?_
     refine exi_nxt ?_
     refine exi_block ?_
     exact hJ37 _ () h _ (join_imp 5 rfl rfl mod_nil (.cons .here (.cons .here .nil)))
    ·
     refine wkf ?_
     refine wsr ?_
     refine oV (v_move rfl) ?_
     refine ck_inv h fun q39 h => ?_
     refine oV (v_add rfl rfl q39) ?_
     refine oV (v_assign rfl) ?_
     refine rnf ?_
     refine w_seq ?_
     refine w_block ?_
     refine w_lp (ι := Int) (γ := Unit) (fun q40 g40 => [(7, isv (q40))]) (fun q40 g40 => []) h () (mod_cons (j := 7) rfl (fun _ _ h => h) mod_nil) .nil (fun L41 q40 g40 Q58 h hL41 eL41 rL41 => ?_)
     refine w_seq ?_
     refine wsr ?_
     refine oV (v_move rfl) ?_
     refine oV (v_fi rfl GTyp.f4 fd58_4 rfl (z := a_t.fields)) ?_
     refine oV (v_loadI ty56 rfl) ?_
     refine oV (v_ln (l := a_t.fields) rfl (fun _ _ h => h) sl56) ?_
     refine oV (v_lss rfl rfl) ?_
     refine oV (v_move rfl) ?_
     refine rl_j (ι := Bool) (γ := Unit) (fun q50 g50 => [(43, isv (q50))]) (fun q50 g50 => []) .nil h 5 rfl (fun q50 g50 h => ?_) (fun J51 h hJ51 => ?_)
     ·
      refine rnf ?_
      refine w_condM h rfl (fun _ h => ?_) (fun _ h => ?_)
      ·
       refine wkf ?_
       refine w_block ?_
       refine w_region ?_
       refine oV (v_move rfl) ?_
       refine ck_inv h fun q54 h => ?_
       refine oV (v_add rfl rfl q54) ?_
       refine oV (v_assign rfl) ?_
       refine rl_nil ?_
       refine fin_block ?_
       exact hL41 _ () h _ (join_imp 11 rfl rfl (mod_cons (j := 7) rfl (fun _ _ h => h) mod_nil) (.cons .here (.cons .here .nil)))
      ·
       refine w_exit ?_
       refine exi_nxt ?_
       refine eL41 _ _ ?_
       refine exi_block ?_
       refine fin_nxt ?_
       refine wsr ?_
       refine oV (v_move rfl) ?_
       refine oV (v_fi rfl GTyp.f4 fd58_4 rfl (z := a_t.fields)) ?_
       refine oV (v_loadI ty56 rfl) ?_
       refine oV (v_move rfl) ?_
       refine oV (v_move rfl) ?_
       refine ck_inv h fun q55 h => ?_
       refine oV (v_add rfl rfl q55) ?_
       refine oV (v_fi rfl GTyp.f4 fd58_4 rfl (z := a_t.fields)) ?_
       refine oV (v_loadI ty56 rfl) ?_
       refine oV (v_ln (l := a_t.fields) rfl (fun _ _ h => h) sl56) ?_
       refine oV (v_min rfl rfl) ?_
       refine asd_inv h fun q56 h => ?_
       refine oV (v_sl (l := a_t.fields) rfl (fun _ _ h => h) sl56 (.inr ⟨_, rfl, rfl⟩) (.inr ⟨_, rfl, rfl⟩) q56.1 q56.2.1 q56.2.2) ?_
       refine cal_inv h fun y57 hy57 h => ?_
       refine oT (t_call (r10_maker_told_w hy57) hT (.same rfl (.same rfl (.same rfl .nil))) (.cons .here (.cons .here .nil)) (fun R H' hR => ?_))
       obtain ⟨rfl, rfl⟩ := hR
       refine oV (v_not rfl) ?_
       refine rnf ?_
       refine w_condM h rfl (fun _ h => ?_) (fun _ h => ?_)
       ·
        refine wsr ?_
        refine oV (v_assign rfl) ?_
        refine rnf ?_
        refine w_ret ?_
        refine ret_block ?_
        refine ret_nxt ?_
        refine rL5 _ ?_
        refine ret_block ?_
        refine ret_nxt ?_
        refine ret_post (.tmp rfl .nil) (.cons .here (.cons .here .nil)) ?_
        obtain rfl := Option.some.inj h
        exact ⟨rfl, rfl⟩
       ·
        refine w_skip ?_
        refine fin_block ?_
        exact hJ37 _ () h _ (join_imp 29 rfl rfl mod_nil (.cons .here (.cons .here .nil)))
     ·
      refine rl_condM (j := 38) h rfl (fun g52 h => ?_) (fun g52 h => ?_)
      ·
       refine op_take rfl rfl (dj := 38) rfl g52 (OpV.t (v_move rfl) ?_)
       refine op_take rfl rfl (dj := 38) rfl g52 (OpV.t (v_move rfl) ?_)
       refine cal_inv h fun y53 hy53 h => ?_
       refine op_take rfl rfl (dj := 38) rfl g52 (OpV.t (v_ix (l := y3) rfl (fun _ _ h => h) rfl sl189 hy53) ?_)
       refine op_take rfl rfl (dj := 38) rfl g52 (OpV.t (v_loadI ty4 rfl) ?_)
       refine oV (v_pick_t rfl g52 rfl) ?_
       exact hJ51 _ () h _ (join_imp 5 rfl rfl (mod_cons (j := 43) rfl (fun _ _ h => h) mod_nil) (.cons .here (.cons .here .nil)))
      ·
       refine op_pass rfl (dj := 38) rfl g52 ?_
       refine op_pass rfl (dj := 38) rfl g52 ?_
       refine op_pass rfl (dj := 38) rfl g52 ?_
       refine op_pass rfl (dj := 38) rfl g52 ?_
       refine oV (v_pick_f rfl g52 rfl) ?_
       exact hJ51 _ () h _ (join_imp 5 rfl rfl (mod_cons (j := 43) rfl (fun _ _ h => h) mod_nil) (.cons .here (.cons .here .nil)))
  ·
   refine w_exit ?_
   refine exi_nxt ?_
   refine eL5 _ _ ?_
   refine exi_block ?_
   refine fin_nxt ?_
   refine w_seq ?_
   refine w_regionD (.v 0 (.v 1 (.v 2 (.v 3 (.v 4 (.v 5 (.v 6 (.v 7 (.t 8 (.v 9 (.t 10 (.v 11 (.v 12 .nil))))))))))))) moOrd (by kernel_rfl) ?_
   refine rd_v rfl (v_fi rfl GTyp.f6 fd58_6 rfl (z := a_t.more)) ?_
   refine rd_v rfl (v_loadI ty4 rfl) ?_
   refine rd_v rfl (v_not rfl) ?_
   refine rd_v rfl (v_move rfl) ?_
   refine rd_j (ι := Bool × GMk) (γ := Unit) (fun q60 g60 => [(70, isv (q60.1))]) (fun q60 g60 => [boxE b_a_x ((q60.2.m, (Vh.mk v_a_x1 q60.2.l.length), q60.2.e) : (GMod × Vh × Int)), vecE v_a_x1 (q60.2.l : List GTyp)]) (.cons .here (.cons .here .nil)) h 8 rfl (fun q60 g60 h => ?_) (fun J61 h hJ61 => ?_)
   ·
    refine rd_v rfl (v_assign rfl) ?_
    refine rd_nil ?_
    refine fin_nxt ?_
    refine w_ret ?_
    refine ret_post (.tmp rfl .nil) (.cons .here (.cons .here .nil)) ?_
    obtain rfl := Option.some.inj h
    exact ⟨rfl, rfl⟩
   ·
    refine rd_condM (j := 62) h rfl (fun g62 h => ?_) (fun g62 h => ?_)
    ·
     refine rd_passV rfl rfl (dj := 62) rfl g62 ?_
     refine rd_passV rfl rfl (dj := 62) rfl g62 ?_
     refine rd_passV rfl rfl (dj := 62) rfl g62 ?_
     refine rd_passV rfl rfl (dj := 62) rfl g62 ?_
     refine rd_passT rfl rfl (dj := 62) rfl g62 ?_
     refine rd_passV rfl rfl (dj := 62) rfl g62 ?_
     refine rd_passT rfl rfl (dj := 62) rfl g62 ?_
     refine rd_v rfl (v_pick_t rfl g62 rfl) ?_
     exact hJ61 _ () h _ (join_imp 8 rfl rfl (mod_cons (j := 70) rfl (fun _ _ h => h) mod_nil) (.cons .here (.cons .here .nil)))
    ·
     refine rd_vt rfl rfl (dj := 62) rfl g62 (v_move rfl) ?_
     refine rd_vt rfl rfl (dj := 62) rfl g62 (v_fi rfl GTyp.f4 fd58_4 rfl (z := a_t.fields)) ?_
     refine rd_vt rfl rfl (dj := 62) rfl g62 (v_loadI ty56 rfl) ?_
     refine rd_vt rfl rfl (dj := 62) rfl g62 (v_loadI ty58 rfl) ?_
     refine cal_inv h fun y63 hy63 h => ?_
     refine rd_tt rfl rfl rfl (dj := 62) rfl g62 (t_call (r10_Last_w hy63) hT (.same rfl .nil) .nil (fun R H' hR => ?_))
     obtain ⟨rfl, rfl⟩ := hR
     refine asd_inv h fun q64 h => ?_
     refine rd_vt rfl rfl (dj := 62) rfl g62 (v_sl (l := a_t.fields) rfl (fun _ _ h => h) sl56 (.inr ⟨_, rfl, rfl⟩) (.inl ⟨rfl, rfl⟩) q64.1 q64.2.1 q64.2.2) ?_
     refine cal_inv h fun y65 hy65 h => ?_
     refine rd_tt rfl rfl rfl (dj := 62) rfl g62 (t_call (r10_maker_told_w hy65) hT (.same rfl (.same rfl (.same rfl .nil))) (.cons .here (.cons .here .nil)) (fun R H' hR => ?_))
     obtain ⟨rfl, rfl⟩ := hR
     refine rd_v rfl (v_pick_f rfl g62 rfl) ?_
     exact hJ61 _ () h _ (join_imp 8 rfl rfl (mod_cons (j := 70) rfl (fun _ _ h => h) mod_nil) (.cons .here (.cons .here .nil)))

end Go.Proofs.YtajbipkppngccaaDoor


namespace Go.Proofs.YtajbipkppngccaaDoor
open Go.Sy
set_option maxRecDepth 4000
def r10_maker_fields_C (f' : GMk → Int → GNode → Int → Option (GMk)) : Prop :=
 ∀ {a_x : GMk} {a_i : Int} {a_n_ : GNode} {a_depth : Int} {b_a_x : Nat} {v_a_x1 : Vt} {r : GMk}, f' a_x a_i a_n_ a_depth = some r → Ctr Tryd.prog 114 [ptrv b_a_x (Fld.id (GMod × Vh × Int)), isv (a_i), isv (a_n_), isv (a_depth)] [boxE b_a_x ((a_x.m, (Vh.mk v_a_x1 a_x.l.length), a_x.e) : (GMod × Vh × Int)), vecE v_a_x1 (a_x.l : List GTyp)] (fun R H => ∃ u1 : Vt, R = oneOf [] ∧ H = [boxE b_a_x ((r.m, (Vh.mk u1 r.l.length), r.e)), vecE u1 (r.l)])
def r10_maker_node_C (f' : GMk → Int → Int → Option (Int × GMk)) : Prop :=
 ∀ {a_x : GMk} {a_k : Int} {a_depth : Int} {b_a_x : Nat} {v_a_x1 : Vt} {r : Int × GMk}, f' a_x a_k a_depth = some r → Ctr Tryd.prog 58 [ptrv b_a_x (Fld.id (GMod × Vh × Int)), isv (a_k), isv (a_depth)] [boxE b_a_x ((a_x.m, (Vh.mk v_a_x1 a_x.l.length), a_x.e) : (GMod × Vh × Int)), vecE v_a_x1 (a_x.l : List GTyp)] (fun R H => ∃ u1 : Vt, R = oneOf [isv (r.1)] ∧ H = [boxE b_a_x ((r.2.m, (Vh.mk u1 r.2.l.length), r.2.e)), vecE u1 (r.2.l)])
def r10_maker_made_C (f' : GMk → GNode → Int → Option (Int × GMk)) : Prop :=
 ∀ {a_x : GMk} {a_n_ : GNode} {a_depth : Int} {b_a_x : Nat} {v_a_x1 : Vt} {r : Int × GMk}, f' a_x a_n_ a_depth = some r → Ctr Tryd.prog 85 [ptrv b_a_x (Fld.id (GMod × Vh × Int)), isv (a_n_), isv (a_depth)] [boxE b_a_x ((a_x.m, (Vh.mk v_a_x1 a_x.l.length), a_x.e) : (GMod × Vh × Int)), vecE v_a_x1 (a_x.l : List GTyp)] (fun R H => ∃ u1 : Vt, R = oneOf [isv (r.1)] ∧ H = [boxE b_a_x ((r.2.m, (Vh.mk u1 r.2.l.length), r.2.e)), vecE u1 (r.2.l)])
theorem r10_maker_fields_w0 {r10_maker_fields' : GMk → Int → GNode → Int → Option (GMk)} {r10_maker_node' : GMk → Int → Int → Option (Int × GMk)} {r10_maker_made' : GMk → GNode → Int → Option (Int × GMk)} (h_r10_maker_fields : r10_maker_fields_C r10_maker_fields') (h_r10_maker_node : r10_maker_node_C r10_maker_node') (h_r10_maker_made : r10_maker_made_C r10_maker_made') : ∀ {a_x : GMk} {a_i : Int} {a_n_ : GNode} {a_depth : Int} {b_a_x : Nat} {v_a_x1 : Vt} {r : GMk}, r10_maker_fields_F r10_maker_fields' r10_maker_node' r10_maker_made' a_x a_i a_n_ a_depth = some r → Ctr Tryd.prog 114 [ptrv b_a_x (Fld.id (GMod × Vh × Int)), isv (a_i), isv (a_n_), isv (a_depth)] [boxE b_a_x ((a_x.m, (Vh.mk v_a_x1 a_x.l.length), a_x.e) : (GMod × Vh × Int)), vecE v_a_x1 (a_x.l : List GTyp)] (fun R H => ∃ u1 : Vt, R = oneOf [] ∧ H = [boxE b_a_x ((r.m, (Vh.mk u1 r.l.length), r.e)), vecE u1 (r.l)]) := by
 intro a_x a_i a_n_ a_depth b_a_x v_a_x1 r h
 unfold r10_maker_fields_F at h
 refine spec_intro Tryd.func114 rfl (by decide +kernel) (by rfl) fun w0 S0 hT => ?_
 refine wsr ?_
 refine oT (t_boxIC (y := a_n_) rfl (fun _ _ h => h) ?_)
 refine rnf ?_
 refine wsr ?_
 refine oV (v_move rfl) ?_
 refine oV (v_nilCheck rfl) ?_
 refine oV (v_fa rfl pt113_0_0 fd113_0) ?_
 refine oV (v_fa rfl GMod.f1 fd75_1) ?_
 refine oT (t_loadC (R := isv (a_x.m.tagging)) ty3 rfl .here (fun _ _ h => h) ?_)
 refine oV (v_neq rfl rfl) ?_
 refine oV (v_assign rfl) ?_
 refine rnf ?_
 refine w_seq ?_
 refine wsr ?_
 refine oV (v_assign rfl) ?_
 refine rnf ?_
 refine w_block ?_
 refine w_lp (ι := Bool × Int) (γ := Unit) (fun q2 g2 => [(0, ptrv b_a_x (Fld.id (GMod × Vh × Int))), (8, isv (q2.1)), (9, isv (q2.2))]) (fun q2 g2 => []) h () (mod_cons (j := 0) rfl (fun _ _ h => h) (mod_cons (j := 8) rfl (fun _ _ h => h) (mod_cons (j := 9) rfl (fun _ _ h => h) mod_nil))) .nil (fun L3 q2 g2 Q336 h hL3 eL3 rL3 => ?_)
 refine w_seq ?_
 refine wsr ?_
 refine oV (v_move rfl) ?_
 refine oV (v_fi rfl GNode.f5 fd133_5 rfl (z := a_n_.fields)) ?_
 refine oV (v_loadI ty56 rfl) ?_
 refine oV (v_ln (l := a_n_.fields) rfl (fun _ _ h => h) sl56) ?_
 refine oV (v_lss rfl rfl) ?_
 refine rnf ?_
 refine w_condM h rfl (fun _ h => ?_) (fun _ h => ?_)
 ·
  refine wkf ?_
  refine w_seq ?_
  refine w_block ?_
  refine wsr ?_
  refine oV (v_fi rfl GNode.f5 fd133_5 rfl (z := a_n_.fields)) ?_
  refine oV (v_loadI ty56 rfl) ?_
  refine oV (v_move rfl) ?_
  refine cal_inv h fun y170 hy170 h => ?_
  refine oV (v_ix (l := a_n_.fields) rfl (fun _ _ h => h) rfl sl56 hy170) ?_
  refine oV (v_loadI ty69 rfl) ?_
  refine oT (t_alloc _ ze69 fun b171 => ?_)
  refine oT (t_storeC (y' := (y170 : GFld)) ty69 rfl rfl (fun _ _ h => h) .here rfl ?_)
  refine rl_upd (upd_imm 10 .here rfl) ?_
  refine rnf ?_
  refine w_pinN 0 .here rfl (fun o172 hn173 => ?_)
  refine w_regionD (.v 0 (.v 1 (.v 2 (.v 3 (.v 4 (.v 5 (.v 6 (.v 7 (.v 8 (.v 9 (.v 10 (.v 11 (.v 12 (.v 13 (.v 14 .nil))))))))))))))) moOrd (by kernel_rfl) ?_
  refine rd_v rfl (v_move rfl) ?_
  refine rd_v rfl (v_move rfl) ?_
  refine rd_j (ι := Bool) (γ := Unit) (fun q174 g174 => [(46, isv (q174))]) (fun q174 g174 => []) .nil h 12 rfl (fun q174 g174 h => ?_) (fun J175 h hJ175 => ?_)
  ·
   refine rd_v rfl (v_assign rfl) ?_
   refine rd_nil ?_
   refine fin_unpinN 0 hn173 rfl ?_
   refine fin_block ?_
   refine fin_nxt ?_
   refine w_region ?_
   refine oV (v_move rfl) ?_
   refine ck_inv h fun q178 h => ?_
   refine oV (v_add rfl rfl q178) ?_
   refine oV (v_assign rfl) ?_
   refine rl_nil ?_
   exact hL3 _ () h _ (join_imp 24 rfl rfl (mod_cons (j := 0) rfl (fun _ _ h => h) (mod_cons (j := 8) rfl (fun _ _ h => h) (mod_cons (j := 9) rfl (fun _ _ h => h) mod_nil))) (.cons .here (.cons .here .nil)))
  ·
   refine rd_condM (j := 34) h rfl (fun g176 h => ?_) (fun g176 h => ?_)
   ·
    refine rd_passV rfl rfl (dj := 34) rfl g176 ?_
    refine rd_passV rfl rfl (dj := 34) rfl g176 ?_
    refine rd_passV rfl rfl (dj := 34) rfl g176 ?_
    refine rd_passV rfl rfl (dj := 34) rfl g176 ?_
    refine rd_passV rfl rfl (dj := 34) rfl g176 ?_
    refine rd_passV rfl rfl (dj := 34) rfl g176 ?_
    refine rd_passV rfl rfl (dj := 34) rfl g176 ?_
    refine rd_passV rfl rfl (dj := 34) rfl g176 ?_
    refine rd_passV rfl rfl (dj := 34) rfl g176 ?_
    refine rd_passV rfl rfl (dj := 34) rfl g176 ?_
    refine rd_passV rfl rfl (dj := 34) rfl g176 ?_
    refine rd_v rfl (v_pick_t rfl g176 rfl) ?_
    exact hJ175 _ () h _ (join_imp 12 rfl rfl (mod_cons (j := 46) rfl (fun _ _ h => h) mod_nil) (.cons .here .nil))
   ·
    refine rd_vt rfl rfl (dj := 34) rfl g176 (v_move rfl) ?_
    refine rd_vt rfl rfl (dj := 34) rfl g176 (v_nilCheckP rfl) ?_
    refine rd_vt rfl rfl (dj := 34) rfl g176 (v_fp rfl pt113_0_0 fd113_0) ?_
    refine rd_vt rfl rfl (dj := 34) rfl g176 (v_fp rfl GMod.f4 fd75_4) ?_
    refine rd_vt rfl rfl (dj := 34) rfl g176 (v_lpC (R := isv (a_x.m.nodes)) ty73 rfl (List.Mem.head _) (fun _ _ h => h)) ?_
    refine rd_vt rfl rfl (dj := 34) rfl g176 (v_fi rfl GFld.f1 fd69_1 rfl (z := y170.ty)) ?_
    refine rd_vt rfl rfl (dj := 34) rfl g176 (v_loadI ty3 rfl) ?_
    refine cal_inv h fun y177 hy177 h => ?_
    refine rd_vt rfl rfl (dj := 34) rfl g176 (v_ix (l := a_x.m.nodes) rfl (fun _ _ h => h) rfl sl73 hy177) ?_
    refine rd_vt rfl rfl (dj := 34) rfl g176 (v_fi rfl GNode.f2 fd133_2 rfl (z := y177.mark)) ?_
    refine rd_vt rfl rfl (dj := 34) rfl g176 (v_fi rfl GMark.f0 fd131_0 rfl (z := y177.mark.has)) ?_
    refine rd_vt rfl rfl (dj := 34) rfl g176 (v_loadI ty4 rfl) ?_
    refine rd_v rfl (v_pick_f rfl g176 rfl) ?_
    exact hJ175 _ () h _ (join_imp 12 rfl rfl (mod_cons (j := 46) rfl (fun _ _ h => h) mod_nil) (.cons .here .nil))
 ·
  refine w_exit ?_
  refine exi_nxt ?_
  refine eL3 _ _ ?_
  refine exi_block ?_
  refine fin_nxt ?_
  refine w_seq ?_
  refine wsr ?_
  refine oV (v_fi rfl GNode.f0 fd133_0 rfl (z := a_n_.kind)) ?_
  refine oV (v_loadI ty3 rfl) ?_
  refine oV (v_eql rfl rfl) ?_
  refine oV (v_move rfl) ?_
  refine rl_j (ι := Bool) (γ := Unit) (fun q179 g179 => [(55, isv (q179))]) (fun q179 g179 => []) .nil h 5 rfl (fun q179 g179 h => ?_) (fun J180 h hJ180 => ?_)
  ·
   refine oV (v_move rfl) ?_
   refine rl_j (ι := Bool) (γ := Unit) (fun q182 g182 => [(60, isv (q182))]) (fun q182 g182 => []) .nil h 4 rfl (fun q182 g182 h => ?_) (fun J183 h hJ183 => ?_)
   ·
    refine rnf ?_
    refine w_J (ι := GMk) (γ := Unit) (fun q185 g185 => []) (fun q185 g185 => [boxE b_a_x ((q185.m, (Vh.mk v_a_x1 q185.l.length), q185.e) : (GMod × Vh × Int)), vecE v_a_x1 (q185.l : List GTyp)]) (.cons .here (.cons .here .nil)) h (fun q185 g185 h => ?_) (fun J186 h hJ186 => ?_)
    ·
     refine wsr ?_
     refine oV (v_assign rfl) ?_
     refine rnf ?_
     refine w_seq ?_
     refine wsr ?_
     refine oV (v_assign rfl) ?_
     refine rnf ?_
     refine w_block ?_
     refine w_upd (upd_tok) ?_
     refine w_lp (ι := (List GFld) × Int × GMk) (γ := Tok × Vt) (fun q188 g188 => [(11, appv g188.1 (q188.1)), (12, isv (q188.2.1))]) (fun q188 g188 => [tokE g188.1, boxE b_a_x ((q188.2.2.m, (Vh.mk g188.2 q188.2.2.l.length), q188.2.2.e) : (GMod × Vh × Int)), vecE g188.2 (q188.2.2.l : List GTyp)]) h (none, v_a_x1) (mod_cons (j := 11) rfl nilv_appv (mod_cons (j := 12) rfl (fun _ _ h => h) mod_nil)) (.cons .here (.cons .here (.cons .here .nil))) (fun L189 q188 g188 Q335 h hL189 eL189 rL189 => ?_)
     refine w_seq ?_
     refine wsr ?_
     refine oV (v_move rfl) ?_
     refine oV (v_fi rfl GNode.f5 fd133_5 rfl (z := a_n_.fields)) ?_
     refine oV (v_loadI ty56 rfl) ?_
     refine oV (v_ln (l := a_n_.fields) rfl (fun _ _ h => h) sl56) ?_
     refine oV (v_lss rfl rfl) ?_
     refine oV (v_move rfl) ?_
     refine rl_j (ι := Bool) (γ := Unit) (fun q262 g262 => [(74, isv (q262))]) (fun q262 g262 => []) .nil h 6 rfl (fun q262 g262 h => ?_) (fun J263 h hJ263 => ?_)
     ·
      refine rnf ?_
      refine w_condM h rfl (fun _ h => ?_) (fun _ h => ?_)
      ·
       refine wkf ?_
       refine w_seq ?_
       refine w_block ?_
       refine wsr ?_
       refine oV (v_fi rfl GNode.f5 fd133_5 rfl (z := a_n_.fields)) ?_
       refine oV (v_loadI ty56 rfl) ?_
       refine oV (v_move rfl) ?_
       refine cal_inv h fun y265 hy265 h => ?_
       refine oV (v_ix (l := a_n_.fields) rfl (fun _ _ h => h) rfl sl56 hy265) ?_
       refine oV (v_loadI ty69 rfl) ?_
       refine oT (t_alloc _ ze69 fun b266 => ?_)
       refine oT (t_storeC (y' := (y265 : GFld)) ty69 rfl rfl (fun _ _ h => h) .here rfl ?_)
       refine rnf ?_
       refine w_seq ?_
       refine wsr ?_
       refine oV (v_assign rfl) ?_
       refine rnf ?_
       refine w_block ?_
       refine w_lp (ι := Int × GMk) (γ := Unit) (fun q267 g267 => [(13, ptrv b266 (Fld.id GFld)), (14, isv (q267.1))]) (fun q267 g267 => [boxE b_a_x ((q267.2.m, (Vh.mk g188.2 q267.2.l.length), q267.2.e) : (GMod × Vh × Int)), vecE g188.2 (q267.2.l : List GTyp)]) h () (mod_cons (j := 13) rfl (fun _ _ h => h) (mod_cons (j := 14) rfl (fun _ _ h => h) mod_nil)) (.cons (.there (.there .here)) (.cons (.there (.there .here)) .nil)) (fun L268 q267 g267 Q327 h hL268 eL268 rL268 => ?_)
       refine w_seq ?_
       refine wsr ?_
       refine oV (v_move rfl) ?_
       refine oV (v_move rfl) ?_
       refine oV (v_lss rfl rfl) ?_
       refine rnf ?_
       refine w_condM h rfl (fun _ h => ?_) (fun _ h => ?_)
       ·
        refine wkf ?_
        refine w_seq ?_
        refine w_J (ι := GMk) (γ := Unit) (fun q298 g298 => [(13, ptrv b266 (Fld.id GFld))]) (fun q298 g298 => [boxE b_a_x ((q298.m, (Vh.mk g188.2 q298.l.length), q298.e) : (GMod × Vh × Int)), vecE g188.2 (q298.l : List GTyp)]) (.cons .here (.cons .here .nil)) h (fun q298 g298 h => ?_) (fun J299 h hJ299 => ?_)
        ·
         refine w_region ?_
         refine oV (v_move rfl) ?_
         refine ck_inv h fun q304 h => ?_
         refine oV (v_add rfl rfl q304) ?_
         refine oV (v_assign rfl) ?_
         refine rl_nil ?_
         exact hL268 _ () h _ (join_imp 9 rfl rfl (mod_cons (j := 13) rfl (fun _ _ h => h) (mod_cons (j := 14) rfl (fun _ _ h => h) mod_nil)) (.cons .here (.cons .here (.cons .here (.cons .here .nil)))))
        ·
         refine w_block ?_
         refine w_seq ?_
         refine w_pinN 13 (.there (.there .here)) rfl (fun o300 hn301 => ?_)
         refine w_regionD (.v 0 (.v 1 (.v 2 (.v 3 (.v 4 (.v 5 (.v 6 (.v 7 (.v 8 .nil))))))))) moOrd (by kernel_rfl) ?_
         refine rd_v rfl (v_fi rfl GNode.f5 fd133_5 rfl (z := a_n_.fields)) ?_
         refine rd_v rfl (v_loadI ty56 rfl) ?_
         refine rd_v rfl (v_move rfl) ?_
         refine cal_inv h fun y302 hy302 h => ?_
         refine rd_v rfl (v_ix (l := a_n_.fields) rfl (fun _ _ h => h) rfl sl56 hy302) ?_
         refine rd_v rfl (v_fi rfl GFld.f0 fd69_0 rfl (z := y302.name)) ?_
         refine rd_v rfl (v_loadI ty9 rfl) ?_
         refine rd_v rfl (v_fp rfl GFld.f0 fd69_0) ?_
         refine rd_v rfl (v_lpC (R := isv (y265.name)) ty9 rfl (List.Mem.head _) (fun _ _ h => h)) ?_
         refine rd_v rfl (v_eqA eq9 rfl rfl) ?_
         refine rd_nil ?_
         refine fin_unpinN 13 hn301 rfl ?_
         refine fin_nxt ?_
         refine w_condM h rfl (fun _ h => ?_) (fun _ h => ?_)
         ·
          refine w_region ?_
          refine oV (v_move rfl) ?_
          refine cal_inv h fun y303 hy303 h => ?_
          refine oT (t_call (r10_maker_fail_w hy303) hT (.same rfl (.same rfl .nil)) (.cons (.there .here) (.cons (.there .here) .nil)) (fun R H' hR => ?_))
          obtain ⟨rfl, rfl⟩ := hR
          refine rl_nil ?_
          refine fin_block ?_
          exact hJ299 _ () h _ (join_imp 13 rfl rfl (mod_cons (j := 13) rfl (fun _ _ h => h) mod_nil) (.cons .here (.cons .here (.cons .here (.cons .here .nil)))))
         ·
          refine w_skip ?_
          refine fin_block ?_
          exact hJ299 _ () h _ (join_imp 11 rfl rfl (mod_cons (j := 13) rfl (fun _ _ h => h) mod_nil) (.cons (.there .here) (.cons (.there .here) (.cons .here (.cons .here .nil)))))
       ·
        refine w_exit ?_
        refine exi_nxt ?_
        refine eL268 _ _ ?_
        refine exi_block ?_
        refine fin_nxt ?_
        refine wsr ?_
        refine oV (v_move rfl) ?_
        refine oV (v_fa rfl GFld.f1 fd69_1) ?_
        refine oT (t_loadC (R := isv (y265.ty)) ty3 rfl (.there (.there .here)) (fun _ _ h => h) ?_)
        refine oV (v_move rfl) ?_
        refine ck_inv h fun q305 h => ?_
        refine oV (v_add rfl rfl q305) ?_
        refine cal_inv h fun y306 hy306 h => ?_
        refine oT (t_call (h_r10_maker_node hy306) hT (.same rfl (.same rfl (.same rfl .nil))) (.cons .here (.cons .here .nil)) (fun R H' hR => ?_))
        obtain ⟨v307, rfl, rfl⟩ := hR
        refine oV (v_fa rfl GFld.f1 fd69_1) ?_
        refine oT (t_storeC (y' := ({ y265 with ty := y306.1 } : GFld)) ty3 rfl rfl (fun _ _ h => h) (.there (.there .here)) rfl ?_)
        refine rnf ?_
        refine w_seq ?_
        refine wsr ?_
        refine oV (v_move rfl) ?_
        refine oV (v_nilCheck rfl) ?_
        refine oV (v_fa rfl pt113_0_2 fd113_2) ?_
        refine oT (t_loadC (R := isv (y306.2.e)) ty30 rfl (.there .here) (fun _ _ h => h) ?_)
        refine oV (v_eql rfl rfl) ?_
        refine oV (v_move rfl) ?_
        refine rl_j (ι := Bool) (γ := Unit) (fun q308 g308 => [(113, isv (q308))]) (fun q308 g308 => []) .nil h 3 rfl (fun q308 g308 h => ?_) (fun J309 h hJ309 => ?_)
        ·
         refine rnf ?_
         refine w_J (ι := GFld × GMk) (γ := Unit) (fun q311 g311 => []) (fun q311 g311 => [boxE b266 (q311.1 : GFld), boxE b_a_x ((q311.2.m, (Vh.mk v307 q311.2.l.length), q311.2.e) : (GMod × Vh × Int)), vecE v307 (q311.2.l : List GTyp)]) (.cons .here (.cons .here (.cons .here .nil))) h (fun q311 g311 h => ?_) (fun J312 h hJ312 => ?_)
         ·
          refine w_seq ?_
          refine wsr ?_
          refine oV (v_move rfl) ?_
          refine oV (v_nilCheck rfl) ?_
          refine oV (v_fa rfl pt113_0_2 fd113_2) ?_
          refine oT (t_loadC (R := isv (q311.2.e)) ty30 rfl (.there .here) (fun _ _ h => h) ?_)
          refine oV (v_eql rfl rfl) ?_
          refine oV (v_move rfl) ?_
          refine rl_j (ι := Bool) (γ := Unit) (fun q314 g314 => [(129, isv (q314))]) (fun q314 g314 => []) .nil h 3 rfl (fun q314 g314 h => ?_) (fun J315 h hJ315 => ?_)
          ·
           refine rnf ?_
           refine w_J (ι := GMk) (γ := Unit) (fun q317 g317 => [(13, ptrv b266 (Fld.id GFld))]) (fun q317 g317 => [boxE b_a_x ((q317.m, (Vh.mk v307 q317.l.length), q317.e) : (GMod × Vh × Int)), vecE v307 (q317.l : List GTyp)]) (.cons (.there .here) (.cons (.there .here) .nil)) h (fun q317 g317 h => ?_) (fun J318 h hJ318 => ?_)
           ·
            refine w_region ?_
            refine oV (v_move rfl) ?_
            refine oT (t_loadC (R := isv (q311.1)) ty69 rfl (.there (.there .here)) (fun _ _ h => h) ?_)
            refine oT (t_buildSlice (l := ([q311.1] : (List GFld))) el56 (.cons rfl (fun _ _ h => h) .nil) rfl rfl ?_)
            refine asr_inv h fun q325 h => ?_
            refine oT (t_appC (l := q188.1) (m := ([q311.1] : (List GFld))) ap56_56 rfl (fun _ _ h => h) rfl appv_isv (.there (.there (.there .here))) q325 fun t324 => ?_)
            refine oV (v_assign rfl) ?_
            refine rl_nil ?_
            refine fin_block ?_
            refine fin_nxt ?_
            refine w_region ?_
            refine oV (v_move rfl) ?_
            refine ck_inv h fun q326 h => ?_
            refine oV (v_add rfl rfl q326) ?_
            refine oV (v_assign rfl) ?_
            refine rl_nil ?_
            exact hL189 _ (t324, v307) h _ (join_imp 51 rfl rfl (mod_cons (j := 11) rfl (fun _ _ h => h) (mod_cons (j := 12) rfl (fun _ _ h => h) mod_nil)) (.cons .here (.cons .here (.cons .here .nil))))
           ·
            refine w_condM h rfl (fun _ h => ?_) (fun _ h => ?_)
            ·
             refine w_pinN 13 .here rfl (fun o319 hn320 => ?_)
             refine w_regionD (.v 0 (.v 1 (.v 2 (.v 3 (.v 4 (.v 5 (.v 6 (.t 7 (.t 8 .nil))))))))) moOrd (by kernel_rfl) ?_
             refine rd_v rfl (v_move rfl) ?_
             refine rd_v rfl (v_fp rfl GFld.f1 fd69_1) ?_
             refine rd_v rfl (v_lpC (R := isv (q311.1.ty)) ty3 rfl (List.Mem.head _) (fun _ _ h => h)) ?_
             refine rd_v rfl (v_move rfl) ?_
             refine rd_v rfl (v_move rfl) ?_
             refine rd_v rfl (v_fp rfl GFld.f1 fd69_1) ?_
             refine rd_v rfl (v_lpC (R := isv (q311.1.ty)) ty3 rfl (List.Mem.head _) (fun _ _ h => h)) ?_
             refine cal_inv h fun y321 hy321 h => ?_
             refine rd_t rfl rfl (t_call (r10_maker_soft_w hy321) hT (.same rfl (.same rfl .nil)) (.cons .here (.cons .here .nil)) (fun R H' hR => ?_))
             obtain ⟨rfl, rfl⟩ := hR
             refine cal_inv h fun y322 hy322 h => ?_
             refine rd_t rfl rfl (t_call (r10_maker_wrap_w hy322) hT (.same rfl (.same rfl (.same rfl (.same rfl .nil)))) (.cons .here (.cons .here .nil)) (fun R H' hR => ?_))
             obtain ⟨rfl, rfl⟩ := hR
             refine rd_nil ?_
             refine fin_unpinN 13 hn320 rfl ?_
             exact hJ318 _ () h _ (join_imp 11 rfl rfl (mod_cons (j := 13) rfl (fun _ _ h => h) mod_nil) (.cons (.there .here) (.cons (.there .here) (.cons .here (.cons .here .nil)))))
            ·
             refine w_skip ?_
             exact hJ318 _ () h _ (join_imp 0 rfl rfl (mod_cons (j := 13) rfl (fun _ _ h => h) mod_nil) (.cons (.there .here) (.cons (.there .here) (.cons .here (.cons .here .nil)))))
          ·
           refine rl_condM (j := 126) h rfl (fun g316 h => ?_) (fun g316 h => ?_)
           ·
            refine op_take rfl rfl (dj := 126) rfl g316 (OpV.t (v_move rfl) ?_)
            refine op_take rfl rfl (dj := 126) rfl g316 (OpV.t (v_not rfl) ?_)
            refine oV (v_pick_t rfl g316 rfl) ?_
            exact hJ315 _ () h _ (join_imp 3 rfl rfl (mod_cons (j := 129) rfl (fun _ _ h => h) mod_nil) (.cons .here (.cons .here (.cons .here (.cons .here .nil)))))
           ·
            refine op_pass rfl (dj := 126) rfl g316 ?_
            refine op_pass rfl (dj := 126) rfl g316 ?_
            refine oV (v_pick_f rfl g316 rfl) ?_
            exact hJ315 _ () h _ (join_imp 3 rfl rfl (mod_cons (j := 129) rfl (fun _ _ h => h) mod_nil) (.cons .here (.cons .here (.cons .here (.cons .here .nil)))))
         ·
          refine w_condM h rfl (fun _ h => ?_) (fun _ h => ?_)
          ·
           refine w_region ?_
           refine oV (v_move rfl) ?_
           refine oV (v_fa rfl GFld.f1 fd69_1) ?_
           refine oT (t_loadC (R := isv (y306.1)) ty3 rfl .here (fun _ _ h => h) ?_)
           refine oV (v_fa rfl GFld.f4 fd69_4) ?_
           refine oT (t_loadC (R := isv (y265.dflt)) ty67 rfl .here (fun _ _ h => h) ?_)
           refine cal_inv h fun y313 hy313 h => ?_
           refine oT (t_call (r10_maker_standard_w hy313) hT (.same rfl (.same rfl (.same rfl .nil))) (.cons (.there .here) (.cons (.there .here) .nil)) (fun R H' hR => ?_))
           obtain ⟨rfl, rfl⟩ := hR
           refine oV (v_fa rfl GFld.f4 fd69_4) ?_
           refine oT (t_storeC (y' := ({ { y265 with ty := y306.1 } with dflt := y313.1 } : GFld)) ty67 rfl rfl (fun _ _ h => h) (.there (.there .here)) rfl ?_)
           refine rl_nil ?_
           exact hJ312 _ () h _ (join_imp 7 rfl rfl mod_nil (.cons .here (.cons .here (.cons .here (.cons .here .nil)))))
          ·
           refine w_skip ?_
           exact hJ312 _ () h _ (join_imp 0 rfl rfl mod_nil (.cons .here (.cons .here (.cons .here (.cons .here .nil)))))
        ·
         refine rl_condM (j := 110) h rfl (fun g310 h => ?_) (fun g310 h => ?_)
         ·
          refine op_take rfl rfl (dj := 110) rfl g310 (OpV.t (v_fa rfl GFld.f3 fd69_3) ?_)
          refine op_take rfl rfl (dj := 110) rfl g310 (t_loadC (R := isv (y265.has)) ty4 rfl .here (fun _ _ h => h) ?_)
          refine oV (v_pick_t rfl g310 rfl) ?_
          exact hJ309 _ () h _ (join_imp 3 rfl rfl (mod_cons (j := 113) rfl (fun _ _ h => h) mod_nil) (.cons .here (.cons .here (.cons .here (.cons .here .nil)))))
         ·
          refine op_pass rfl (dj := 110) rfl g310 ?_
          refine op_pass rfl (dj := 110) rfl g310 ?_
          refine oV (v_pick_f rfl g310 rfl) ?_
          exact hJ309 _ () h _ (join_imp 3 rfl rfl (mod_cons (j := 113) rfl (fun _ _ h => h) mod_nil) (.cons .here (.cons .here (.cons .here (.cons .here .nil)))))
      ·
       refine w_exit ?_
       refine exi_nxt ?_
       refine eL189 _ _ ?_
       refine exi_block ?_
       refine fin_nxt ?_
       refine wsr ?_
       refine oV (v_move rfl) ?_
       refine oV (v_nilCheck rfl) ?_
       refine oV (v_fa rfl pt113_0_2 fd113_2) ?_
       refine oT (t_loadC (R := isv (q188.2.2.e)) ty30 rfl (.there .here) (fun _ _ h => h) ?_)
       refine oV (v_eql rfl rfl) ?_
       refine rnf ?_
       refine w_condM h rfl (fun _ h => ?_) (fun _ h => ?_)
       ·
        refine wsr ?_
        refine oV (v_move rfl) ?_
        refine oV (v_nilCheck rfl) ?_
        refine oV (v_fa rfl pt113_0_1 fd113_1) ?_
        refine oT (t_loadC (R := vecv g188.2 (q188.2.2.l.length)) ty24 rfl (.there .here) isvV1 ?_)
        refine oV (v_move rfl) ?_
        refine oV (v_move rfl) ?_
        refine asd_inv h fun q328 h => ?_
        refine oV (v_vidx (α := GTyp) sl24 rfl rfl q328.1 q328.2) ?_
        refine oV (v_fv rfl GTyp.f4 fd58_4) ?_
        refine cal_inv h fun y329 hy329 h => ?_
        refine rl_upd (upd_slot 153 rfl (appv_isv)) ?_
        refine oT (t_vstore ty56 rfl rfl (.there (.there .here)) hy329 ?_)
        refine rl_upd (upd_box (y := ((q188.2.2.m, (Vh.mk g188.2 (q188.2.2.l.set a_i.toNat ({ y329 with fields := q188.1 })).length), q188.2.2.e) : (GMod × Vh × Int))) (.there (.there .here)) (fun S => (Cv.pair Cv.id (Cv.pair (Cv.vhe (by first | rfl | simp)) Cv.id)))) ?_
        refine rnf ?_
        refine wsr ?_
        refine oV (v_move rfl) ?_
        refine oV (v_move rfl) ?_
        refine oV (v_nilCheck rfl) ?_
        refine oV (v_fa rfl pt113_0_1 fd113_1) ?_
        refine oT (t_loadC (R := vecv g188.2 ((q188.2.2.l.set a_i.toNat ({ y329 with fields := q188.1 })).length)) ty24 rfl .here isvV1 ?_)
        refine oV (v_move rfl) ?_
        refine asd_inv h fun q330 h => ?_
        refine oV (v_vidx (α := GTyp) sl24 rfl rfl q330.1 q330.2) ?_
        refine cal_inv h fun y331 hy331 h => ?_
        refine oT (t_vload ty58 rfl (.there .here) hy331 ?_)
        refine cal_inv h fun y332 hy332 h => ?_
        refine oT (t_call (r10_maker_apart_w hy332) hT (.same rfl (.same rfl .nil)) (.cons .here (.cons .here .nil)) (fun R H' hR => ?_))
        obtain ⟨rfl, rfl⟩ := hR
        refine oV (v_not rfl) ?_
        refine rnf ?_
        refine w_condM h rfl (fun _ h => ?_) (fun _ h => ?_)
        ·
         refine w_region ?_
         refine oV (v_move rfl) ?_
         refine cal_inv h fun y333 hy333 h => ?_
         refine oT (t_call (r10_maker_fail_w hy333) hT (.same rfl (.same rfl .nil)) (.cons .here (.cons .here .nil)) (fun R H' hR => ?_))
         obtain ⟨rfl, rfl⟩ := hR
         refine rl_nil ?_
         refine fin_post .nil (.cons .here (.cons .here .nil)) ?_
         obtain rfl := Option.some.inj h
         exact ⟨g188.2, rfl, rfl⟩
        ·
         refine w_skip ?_
         refine fin_post .nil (.cons .here (.cons .here .nil)) ?_
         obtain rfl := Option.some.inj h
         exact ⟨g188.2, rfl, rfl⟩
       ·
        refine w_skip ?_
        refine fin_post .nil (.cons (.there .here) (.cons (.there .here) .nil)) ?_
        obtain rfl := Option.some.inj h
        exact ⟨g188.2, rfl, rfl⟩
     ·
      refine rl_condM (j := 68) h rfl (fun g264 h => ?_) (fun g264 h => ?_)
      ·
       refine op_take rfl rfl (dj := 68) rfl g264 (OpV.t (v_move rfl) ?_)
       refine op_take rfl rfl (dj := 68) rfl g264 (OpV.t (v_nilCheck rfl) ?_)
       refine op_take rfl rfl (dj := 68) rfl g264 (OpV.t (v_fa rfl pt113_0_2 fd113_2) ?_)
       refine op_take rfl rfl (dj := 68) rfl g264 (t_loadC (R := isv (q188.2.2.e)) ty30 rfl (.there .here) (fun _ _ h => h) ?_)
       refine op_take rfl rfl (dj := 68) rfl g264 (OpV.t (v_eql rfl rfl) ?_)
       refine oV (v_pick_t rfl g264 rfl) ?_
       exact hJ263 _ () h _ (join_imp 6 rfl rfl (mod_cons (j := 74) rfl (fun _ _ h => h) mod_nil) (.cons .here (.cons .here (.cons .here .nil))))
      ·
       refine op_pass rfl (dj := 68) rfl g264 ?_
       refine op_pass rfl (dj := 68) rfl g264 ?_
       refine op_pass rfl (dj := 68) rfl g264 ?_
       refine op_pass rfl (dj := 68) rfl g264 ?_
       refine op_pass rfl (dj := 68) rfl g264 ?_
       refine oV (v_pick_f rfl g264 rfl) ?_
       exact hJ263 _ () h _ (join_imp 6 rfl rfl (mod_cons (j := 74) rfl (fun _ _ h => h) mod_nil) (.cons .here (.cons .here (.cons .here .nil))))
    ·
     refine w_condM h rfl (fun _ h => ?_) (fun _ h => ?_)
     ·
      refine w_region ?_
      refine oV (v_move rfl) ?_
      refine cal_inv h fun y187 hy187 h => ?_
      refine oT (t_call (r10_maker_fail_w hy187) hT (.same rfl (.same rfl .nil)) (.cons .here (.cons .here .nil)) (fun R H' hR => ?_))
      obtain ⟨rfl, rfl⟩ := hR
      refine rl_nil ?_
      exact hJ186 _ () h _ (join_imp 2 rfl rfl mod_nil (.cons .here (.cons .here .nil)))
     ·
      refine w_skip ?_
      exact hJ186 _ () h _ (join_imp 0 rfl rfl mod_nil (.cons .here (.cons .here .nil)))
   ·
    refine rl_condM (j := 56) h rfl (fun g184 h => ?_) (fun g184 h => ?_)
    ·
     refine op_take rfl rfl (dj := 56) rfl g184 (OpV.t (v_fi rfl GNode.f7 fd133_7 rfl (z := a_n_.more)) ?_)
     refine op_take rfl rfl (dj := 56) rfl g184 (OpV.t (v_loadI ty4 rfl) ?_)
     refine op_take rfl rfl (dj := 56) rfl g184 (OpV.t (v_not rfl) ?_)
     refine oV (v_pick_t rfl g184 rfl) ?_
     exact hJ183 _ () h _ (join_imp 4 rfl rfl (mod_cons (j := 60) rfl (fun _ _ h => h) mod_nil) (.cons .here (.cons .here .nil)))
    ·
     refine op_pass rfl (dj := 56) rfl g184 ?_
     refine op_pass rfl (dj := 56) rfl g184 ?_
     refine op_pass rfl (dj := 56) rfl g184 ?_
     refine oV (v_pick_f rfl g184 rfl) ?_
     exact hJ183 _ () h _ (join_imp 4 rfl rfl (mod_cons (j := 60) rfl (fun _ _ h => h) mod_nil) (.cons .here (.cons .here .nil)))
  ·
   refine rl_condM (j := 50) h rfl (fun g181 h => ?_) (fun g181 h => ?_)
   ·
    refine op_take rfl rfl (dj := 50) rfl g181 (OpV.t (v_fi rfl GNode.f5 fd133_5 rfl (z := a_n_.fields)) ?_)
    refine op_take rfl rfl (dj := 50) rfl g181 (OpV.t (v_loadI ty56 rfl) ?_)
    refine op_take rfl rfl (dj := 50) rfl g181 (OpV.t (v_ln (l := a_n_.fields) rfl (fun _ _ h => h) sl56) ?_)
    refine op_take rfl rfl (dj := 50) rfl g181 (OpV.t (v_eql rfl rfl) ?_)
    refine oV (v_pick_t rfl g181 rfl) ?_
    exact hJ180 _ () h _ (join_imp 5 rfl rfl (mod_cons (j := 55) rfl (fun _ _ h => h) mod_nil) (.cons .here (.cons .here .nil)))
   ·
    refine op_pass rfl (dj := 50) rfl g181 ?_
    refine op_pass rfl (dj := 50) rfl g181 ?_
    refine op_pass rfl (dj := 50) rfl g181 ?_
    refine op_pass rfl (dj := 50) rfl g181 ?_
    refine oV (v_pick_f rfl g181 rfl) ?_
    exact hJ180 _ () h _ (join_imp 5 rfl rfl (mod_cons (j := 55) rfl (fun _ _ h => h) mod_nil) (.cons .here (.cons .here .nil)))

theorem r10_maker_node_w0 {r10_maker_fields' : GMk → Int → GNode → Int → Option (GMk)} {r10_maker_node' : GMk → Int → Int → Option (Int × GMk)} {r10_maker_made' : GMk → GNode → Int → Option (Int × GMk)} (h_r10_maker_fields : r10_maker_fields_C r10_maker_fields') (h_r10_maker_node : r10_maker_node_C r10_maker_node') (h_r10_maker_made : r10_maker_made_C r10_maker_made') : ∀ {a_x : GMk} {a_k : Int} {a_depth : Int} {b_a_x : Nat} {v_a_x1 : Vt} {r : Int × GMk}, r10_maker_node_F r10_maker_fields' r10_maker_node' r10_maker_made' a_x a_k a_depth = some r → Ctr Tryd.prog 58 [ptrv b_a_x (Fld.id (GMod × Vh × Int)), isv (a_k), isv (a_depth)] [boxE b_a_x ((a_x.m, (Vh.mk v_a_x1 a_x.l.length), a_x.e) : (GMod × Vh × Int)), vecE v_a_x1 (a_x.l : List GTyp)] (fun R H => ∃ u1 : Vt, R = oneOf [isv (r.1)] ∧ H = [boxE b_a_x ((r.2.m, (Vh.mk u1 r.2.l.length), r.2.e)), vecE u1 (r.2.l)]) := by
 intro a_x a_k a_depth b_a_x v_a_x1 r h
 unfold r10_maker_node_F at h
 refine spec_intro Tryd.func58 rfl (by decide +kernel) (by rfl) fun w0 S0 hT => ?_
 refine wsr ?_
 refine oV (v_assign rfl) ?_
 refine rnf ?_
 refine w_seq ?_
 refine wsr ?_
 refine oV (v_move rfl) ?_
 refine oV (v_nilCheck rfl) ?_
 refine oV (v_fa rfl pt113_0_2 fd113_2) ?_
 refine oT (t_loadC (R := isv (a_x.e)) ty30 rfl .here (fun _ _ h => h) ?_)
 refine oV (v_neq rfl rfl) ?_
 refine rnf ?_
 refine w_condM h rfl (fun _ h => ?_) (fun _ h => ?_)
 ·
  refine wsr ?_
  refine oV (v_assign rfl) ?_
  refine rnf ?_
  refine w_ret ?_
  refine ret_nxt ?_
  refine ret_post (.tmp rfl .nil) (.cons .here (.cons .here .nil)) ?_
  obtain rfl := Option.some.inj h
  exact ⟨v_a_x1, rfl, rfl⟩
 ·
  refine wkf ?_
  refine wsr ?_
  refine oV (v_move rfl) ?_
  refine oV (v_nilCheck rfl) ?_
  refine oV (v_fa rfl pt113_0_0 fd113_0) ?_
  refine oV (v_fa rfl GMod.f4 fd75_4) ?_
  refine oT (t_loadC (R := isv (a_x.m.nodes)) ty73 rfl .here (fun _ _ h => h) ?_)
  refine oV (v_move rfl) ?_
  refine cal_inv h fun y2 hy2 h => ?_
  refine oV (v_ix (l := a_x.m.nodes) rfl (fun _ _ h => h) rfl sl73 hy2) ?_
  refine oV (v_loadI ty133 rfl) ?_
  refine oT (t_alloc _ ze133 fun b3 => ?_)
  refine oT (t_storeC (y' := (y2 : GNode)) ty133 rfl rfl (fun _ _ h => h) .here rfl ?_)
  refine rl_upd (upd_imm 7 .here rfl) ?_
  refine rnf ?_
  refine wsr ?_
  refine oV (v_assign rfl) ?_
  refine rnf ?_
  refine w_seq ?_
  refine wsr ?_
  refine oV (v_fi rfl GNode.f0 fd133_0 rfl (z := y2.kind)) ?_
  refine oV (v_loadI ty3 rfl) ?_
  refine oV (v_eql rfl rfl) ?_
  refine rnf ?_
  refine w_J (ι := Int × GMk) (γ := Vt) (fun q4 g4 => [(8, isv (q4.1))]) (fun q4 g4 => [boxE b_a_x ((q4.2.m, (Vh.mk g4 q4.2.l.length), q4.2.e) : (GMod × Vh × Int)), vecE g4 (q4.2.l : List GTyp)]) (.cons .here (.cons .here .nil)) h (fun q4 g4 h => ?_) (fun J5 h hJ5 => ?_)
  ·
   refine w_seq ?_
   refine wsr ?_
   refine oV (v_move rfl) ?_
   refine oV (v_nilCheck rfl) ?_
   refine oV (v_fa rfl pt113_0_2 fd113_2) ?_
   refine oT (t_loadC (R := isv (q4.2.e)) ty30 rfl .here (fun _ _ h => h) ?_)
   refine oV (v_eql rfl rfl) ?_
   refine oV (v_move rfl) ?_
   refine rl_j (ι := Bool) (γ := Unit) (fun q14 g14 => [(56, isv (q14))]) (fun q14 g14 => []) .nil h 4 rfl (fun q14 g14 h => ?_) (fun J15 h hJ15 => ?_)
   ·
    refine rnf ?_
    refine w_J (ι := GMk) (γ := Unit) (fun q17 g17 => []) (fun q17 g17 => [boxE b_a_x ((q17.m, (Vh.mk g4 q17.l.length), q17.e) : (GMod × Vh × Int)), vecE g4 (q17.l : List GTyp)]) (.cons .here (.cons .here .nil)) h (fun q17 g17 h => ?_) (fun J18 h hJ18 => ?_)
    ·
     refine wsr ?_
     refine oV (v_move rfl) ?_
     refine oV (v_assign rfl) ?_
     refine rnf ?_
     refine w_ret ?_
     refine ret_post (.tmp rfl .nil) (.cons .here (.cons .here .nil)) ?_
     obtain rfl := Option.some.inj h
     exact ⟨g4, rfl, rfl⟩
    ·
     refine w_condM h rfl (fun _ h => ?_) (fun _ h => ?_)
     ·
      refine wsr ?_
      refine oV (v_assign rfl) ?_
      refine rnf ?_
      refine w_seq ?_
      refine w_J (ι := Int × GMk) (γ := Unit) (fun q19 g19 => [(9, isv (q19.1))]) (fun q19 g19 => [boxE b_a_x ((q19.2.m, (Vh.mk g4 q19.2.l.length), q19.2.e) : (GMod × Vh × Int)), vecE g4 (q19.2.l : List GTyp)]) (.cons .here (.cons .here .nil)) h (fun q19 g19 h => ?_) (fun J20 h hJ20 => ?_)
      ·
       refine w_region ?_
       refine oV (v_move rfl) ?_
       refine oV (v_move rfl) ?_
       refine oV (v_fi rfl GNode.f2 fd133_2 rfl (z := y2.mark)) ?_
       refine oV (v_fi rfl GMark.f1 fd131_1 rfl (z := y2.mark.number)) ?_
       refine oV (v_loadI ty3 rfl) ?_
       refine oV (v_move rfl) ?_
       refine cal_inv h fun y25 hy25 h => ?_
       refine oT (t_call (r10_maker_wrap_w hy25) hT (.same rfl (.same rfl (.same rfl (.same rfl .nil)))) (.cons .here (.cons .here .nil)) (fun R H' hR => ?_))
       obtain ⟨rfl, rfl⟩ := hR
       refine rl_nil ?_
       exact hJ18 _ () h _ (join_imp 9 rfl rfl mod_nil (.cons .here (.cons .here .nil)))
      ·
       refine w_block ?_
       refine wsr ?_
       refine oV (v_fi rfl GNode.f2 fd133_2 rfl (z := y2.mark)) ?_
       refine oV (v_fi rfl GMark.f2 fd131_2 rfl (z := y2.mark.mode)) ?_
       refine oV (v_loadI ty3 rfl) ?_
       refine oV (v_eql rfl rfl) ?_
       refine oV (v_assign rfl) ?_
       refine rnf ?_
       refine w_condM h rfl (fun _ h => ?_) (fun _ h => ?_)
       ·
        refine w_region ?_
        refine oV (v_assign rfl) ?_
        refine rl_nil ?_
        refine fin_block ?_
        exact hJ20 _ () h _ (join_imp 6 rfl rfl (mod_cons (j := 9) rfl (fun _ _ h => h) mod_nil) (.cons .here (.cons .here .nil)))
       ·
        refine wsr ?_
        refine oV (v_fi rfl GNode.f2 fd133_2 rfl (z := y2.mark)) ?_
        refine oV (v_fi rfl GMark.f2 fd131_2 rfl (z := y2.mark.mode)) ?_
        refine oV (v_loadI ty3 rfl) ?_
        refine oV (v_eql rfl rfl) ?_
        refine oV (v_move rfl) ?_
        refine rl_j (ι := Bool) (γ := Unit) (fun q21 g21 => [(74, isv (q21))]) (fun q21 g21 => []) .nil h 7 rfl (fun q21 g21 h => ?_) (fun J22 h hJ22 => ?_)
        ·
         refine oV (v_assign rfl) ?_
         refine rnf ?_
         refine w_condM h rfl (fun _ h => ?_) (fun _ h => ?_)
         ·
          refine w_region ?_
          refine oV (v_move rfl) ?_
          refine oV (v_move rfl) ?_
          refine cal_inv h fun y24 hy24 h => ?_
          refine oT (t_call (r10_maker_soft_w hy24) hT (.same rfl (.same rfl .nil)) (.cons .here (.cons .here .nil)) (fun R H' hR => ?_))
          obtain ⟨rfl, rfl⟩ := hR
          refine oV (v_assign rfl) ?_
          refine rl_nil ?_
          refine fin_block ?_
          exact hJ20 _ () h _ (join_imp 16 rfl rfl (mod_cons (j := 9) rfl (fun _ _ h => h) mod_nil) (.cons .here (.cons .here .nil)))
         ·
          refine w_skip ?_
          refine fin_block ?_
          exact hJ20 _ () h _ (join_imp 12 rfl rfl (mod_cons (j := 9) rfl (fun _ _ h => h) mod_nil) (.cons .here (.cons .here .nil)))
        ·
         refine rl_condM (j := 67) h rfl (fun g23 h => ?_) (fun g23 h => ?_)
         ·
          refine op_take rfl rfl (dj := 67) rfl g23 (OpV.t (v_move rfl) ?_)
          refine op_take rfl rfl (dj := 67) rfl g23 (OpV.t (v_nilCheck rfl) ?_)
          refine op_take rfl rfl (dj := 67) rfl g23 (OpV.t (v_fa rfl pt113_0_0 fd113_0) ?_)
          refine op_take rfl rfl (dj := 67) rfl g23 (OpV.t (v_fa rfl GMod.f1 fd75_1) ?_)
          refine op_take rfl rfl (dj := 67) rfl g23 (t_loadC (R := isv (q4.2.m.tagging)) ty3 rfl .here (fun _ _ h => h) ?_)
          refine op_take rfl rfl (dj := 67) rfl g23 (OpV.t (v_neq rfl rfl) ?_)
          refine oV (v_pick_t rfl g23 rfl) ?_
          exact hJ22 _ () h _ (join_imp 7 rfl rfl (mod_cons (j := 74) rfl (fun _ _ h => h) mod_nil) (.cons .here (.cons .here .nil)))
         ·
          refine op_pass rfl (dj := 67) rfl g23 ?_
          refine op_pass rfl (dj := 67) rfl g23 ?_
          refine op_pass rfl (dj := 67) rfl g23 ?_
          refine op_pass rfl (dj := 67) rfl g23 ?_
          refine op_pass rfl (dj := 67) rfl g23 ?_
          refine op_pass rfl (dj := 67) rfl g23 ?_
          refine oV (v_pick_f rfl g23 rfl) ?_
          exact hJ22 _ () h _ (join_imp 7 rfl rfl (mod_cons (j := 74) rfl (fun _ _ h => h) mod_nil) (.cons .here (.cons .here .nil)))
     ·
      refine w_skip ?_
      exact hJ18 _ () h _ (join_imp 0 rfl rfl mod_nil (.cons .here (.cons .here .nil)))
   ·
    refine rl_condM (j := 52) h rfl (fun g16 h => ?_) (fun g16 h => ?_)
    ·
     refine op_take rfl rfl (dj := 52) rfl g16 (OpV.t (v_fi rfl GNode.f2 fd133_2 rfl (z := y2.mark)) ?_)
     refine op_take rfl rfl (dj := 52) rfl g16 (OpV.t (v_fi rfl GMark.f0 fd131_0 rfl (z := y2.mark.has)) ?_)
     refine op_take rfl rfl (dj := 52) rfl g16 (OpV.t (v_loadI ty4 rfl) ?_)
     refine oV (v_pick_t rfl g16 rfl) ?_
     exact hJ15 _ () h _ (join_imp 4 rfl rfl (mod_cons (j := 56) rfl (fun _ _ h => h) mod_nil) (.cons .here (.cons .here .nil)))
    ·
     refine op_pass rfl (dj := 52) rfl g16 ?_
     refine op_pass rfl (dj := 52) rfl g16 ?_
     refine op_pass rfl (dj := 52) rfl g16 ?_
     refine oV (v_pick_f rfl g16 rfl) ?_
     exact hJ15 _ () h _ (join_imp 4 rfl rfl (mod_cons (j := 56) rfl (fun _ _ h => h) mod_nil) (.cons .here (.cons .here .nil)))
  ·
   refine w_condM h rfl (fun _ h => ?_) (fun _ h => ?_)
   ·
    refine w_regionD (.v 0 (.v 1 (.v 2 (.v 3 (.v 4 (.v 6 (.v 7 (.v 8 (.v 10 (.v 11 (.v 15 (.alt 5 (.t 9 (.t 12 (.v 13 (.v 14 (.t 16 (.v 17 .nil)))))) (.t 9 (.alt 5 (.t 12 (.v 13 (.v 14 (.t 16 (.v 17 .nil))))) (.t 12 (.t 5 (.v 13 (.v 14 (.t 16 (.v 17 .nil)))))))))))))))))))) moOrd (by kernel_rfl) ?_
    refine rd_v rfl (v_move rfl) ?_
    refine rd_v rfl (v_move rfl) ?_
    refine rd_v rfl (v_nilCheck rfl) ?_
    refine rd_v rfl (v_fa rfl pt113_0_0 fd113_0) ?_
    refine rd_v rfl (v_fa rfl GMod.f3 fd75_3) ?_
    refine rd_v rfl (v_move rfl) ?_
    refine rd_v rfl (v_nilCheck rfl) ?_
    refine rd_v rfl (v_fa rfl pt113_0_0 fd113_0) ?_
    refine rd_v rfl (v_fi rfl GNode.f1 fd133_1 rfl (z := y2.name)) ?_
    refine rd_v rfl (v_loadI ty9 rfl) ?_
    refine rd_v rfl (v_move rfl) ?_
    refine cal_inv h fun y6 hy6 h => ?_
    refine cal_inv h fun y7 hy7 h => ?_
    refine cal_inv h fun y8 hy8 h => ?_
    refine rd_two ?_ ?_
    ·
     refine rd_t rfl rfl (t_loadC (R := isv (a_x.m.types)) ty23 rfl .here (fun _ _ h => h) ?_)
     refine rd_t rfl rfl (t_loadC (R := isv (a_x.m)) ty75 rfl .here (fun _ _ h => h) ?_)
     refine rd_t rfl rfl (t_call (r07_Find_w hy6) hT (.same rfl (.same rfl .nil)) .nil (fun R H' hR => ?_))
     obtain ⟨rfl, rfl⟩ := hR
     refine rd_v rfl (v_ix (l := a_x.m.types) rfl (fun _ _ h => h) rfl sl23 hy7) ?_
     refine rd_v rfl (v_loadI ty3 rfl) ?_
     refine rd_t rfl rfl (t_call (h_r10_maker_node hy8) hT (.same rfl (.same rfl (.same rfl .nil))) (.cons .here (.cons .here .nil)) (fun R H' hR => ?_))
     obtain ⟨v9, rfl, rfl⟩ := hR
     refine rd_v rfl (v_assign rfl) ?_
     refine rd_nil ?_
     exact hJ5 _ (v9) h _ (join_imp 18 rfl rfl (mod_cons (j := 8) rfl (fun _ _ h => h) mod_nil) (.cons .here (.cons .here .nil)))
    ·
     refine rd_t rfl rfl (t_loadC (R := isv (a_x.m)) ty75 rfl .here (fun _ _ h => h) ?_)
     refine rd_two ?_ ?_
     ·
      refine rd_t rfl rfl (t_loadC (R := isv (a_x.m.types)) ty23 rfl .here (fun _ _ h => h) ?_)
      refine rd_t rfl rfl (t_call (r07_Find_w hy6) hT (.same rfl (.same rfl .nil)) .nil (fun R H' hR => ?_))
      obtain ⟨rfl, rfl⟩ := hR
      refine rd_v rfl (v_ix (l := a_x.m.types) rfl (fun _ _ h => h) rfl sl23 hy7) ?_
      refine rd_v rfl (v_loadI ty3 rfl) ?_
      refine rd_t rfl rfl (t_call (h_r10_maker_node hy8) hT (.same rfl (.same rfl (.same rfl .nil))) (.cons .here (.cons .here .nil)) (fun R H' hR => ?_))
      obtain ⟨v10, rfl, rfl⟩ := hR
      refine rd_v rfl (v_assign rfl) ?_
      refine rd_nil ?_
      exact hJ5 _ (v10) h _ (join_imp 18 rfl rfl (mod_cons (j := 8) rfl (fun _ _ h => h) mod_nil) (.cons .here (.cons .here .nil)))
     ·
      refine rd_t rfl rfl (t_call (r07_Find_w hy6) hT (.same rfl (.same rfl .nil)) .nil (fun R H' hR => ?_))
      obtain ⟨rfl, rfl⟩ := hR
      refine rd_t rfl rfl (t_loadC (R := isv (a_x.m.types)) ty23 rfl .here (fun _ _ h => h) ?_)
      refine rd_v rfl (v_ix (l := a_x.m.types) rfl (fun _ _ h => h) rfl sl23 hy7) ?_
      refine rd_v rfl (v_loadI ty3 rfl) ?_
      refine rd_t rfl rfl (t_call (h_r10_maker_node hy8) hT (.same rfl (.same rfl (.same rfl .nil))) (.cons .here (.cons .here .nil)) (fun R H' hR => ?_))
      obtain ⟨v11, rfl, rfl⟩ := hR
      refine rd_v rfl (v_assign rfl) ?_
      refine rd_nil ?_
      exact hJ5 _ (v11) h _ (join_imp 18 rfl rfl (mod_cons (j := 8) rfl (fun _ _ h => h) mod_nil) (.cons .here (.cons .here .nil)))
   ·
    refine w_region ?_
    refine oV (v_move rfl) ?_
    refine oV (v_loadI ty133 rfl) ?_
    refine oV (v_move rfl) ?_
    refine cal_inv h fun y12 hy12 h => ?_
    refine oT (t_call (h_r10_maker_made hy12) hT (.same rfl (.same rfl (.same rfl .nil))) (.cons .here (.cons .here .nil)) (fun R H' hR => ?_))
    obtain ⟨v13, rfl, rfl⟩ := hR
    refine oV (v_assign rfl) ?_
    refine rl_nil ?_
    exact hJ5 _ (v13) h _ (join_imp 5 rfl rfl (mod_cons (j := 8) rfl (fun _ _ h => h) mod_nil) (.cons .here (.cons .here .nil)))

theorem r10_maker_made_w0 {r10_maker_fields' : GMk → Int → GNode → Int → Option (GMk)} {r10_maker_node' : GMk → Int → Int → Option (Int × GMk)} {r10_maker_made' : GMk → GNode → Int → Option (Int × GMk)} (h_r10_maker_fields : r10_maker_fields_C r10_maker_fields') (h_r10_maker_node : r10_maker_node_C r10_maker_node') (h_r10_maker_made : r10_maker_made_C r10_maker_made') : ∀ {a_x : GMk} {a_n_ : GNode} {a_depth : Int} {b_a_x : Nat} {v_a_x1 : Vt} {r : Int × GMk}, r10_maker_made_F r10_maker_fields' r10_maker_node' r10_maker_made' a_x a_n_ a_depth = some r → Ctr Tryd.prog 85 [ptrv b_a_x (Fld.id (GMod × Vh × Int)), isv (a_n_), isv (a_depth)] [boxE b_a_x ((a_x.m, (Vh.mk v_a_x1 a_x.l.length), a_x.e) : (GMod × Vh × Int)), vecE v_a_x1 (a_x.l : List GTyp)] (fun R H => ∃ u1 : Vt, R = oneOf [isv (r.1)] ∧ H = [boxE b_a_x ((r.2.m, (Vh.mk u1 r.2.l.length), r.2.e)), vecE u1 (r.2.l)]) := by
 intro a_x a_n_ a_depth b_a_x v_a_x1 r h
 unfold r10_maker_made_F at h
 refine spec_intro Tryd.func85 rfl (by decide +kernel) (by rfl) fun w0 S0 hT => ?_
 refine wsr ?_
 refine oT (t_boxIC (y := a_n_) rfl (fun _ _ h => h) ?_)
 refine oV (v_assign rfl) ?_
 refine rnf ?_
 refine w_seq ?_
 refine wsr ?_
 refine oV (v_move rfl) ?_
 refine oV (v_gtr rfl rfl) ?_
 refine oV (v_move rfl) ?_
 refine rl_j (ι := Bool) (γ := Unit) (fun q2 g2 => [(20, isv (q2))]) (fun q2 g2 => []) .nil h 7 rfl (fun q2 g2 h => ?_) (fun J3 h hJ3 => ?_)
 ·
  refine rnf ?_
  refine w_condM h rfl (fun _ h => ?_) (fun _ h => ?_)
  ·
   refine wsr ?_
   refine oV (v_move rfl) ?_
   refine cal_inv h fun y5 hy5 h => ?_
   refine oT (t_call (r10_maker_fail_w hy5) hT (.same rfl (.same rfl .nil)) (.cons .here (.cons .here .nil)) (fun R H' hR => ?_))
   obtain ⟨rfl, rfl⟩ := hR
   refine rnf ?_
   refine wsr ?_
   refine oV (v_assign rfl) ?_
   refine rnf ?_
   refine w_ret ?_
   refine ret_nxt ?_
   refine ret_post (.tmp rfl .nil) (.cons .here (.cons .here .nil)) ?_
   obtain rfl := Option.some.inj h
   exact ⟨v_a_x1, rfl, rfl⟩
  ·
   refine wkf ?_
   refine wsr ?_
   refine oV (v_move rfl) ?_
   refine oV (v_nilCheck rfl) ?_
   refine oV (v_fa rfl pt113_0_1 fd113_1) ?_
   refine oT (t_loadC (R := vecv v_a_x1 (a_x.l.length)) ty24 rfl .here isvV1 ?_)
   refine oV (v_vlen sl24 rfl) ?_
   refine oV (v_assign rfl) ?_
   refine rnf ?_
   refine wsr ?_
   refine oV (v_fi rfl GNode.f0 fd133_0 rfl (z := a_n_.kind)) ?_
   refine oV (v_loadI ty3 rfl) ?_
   refine oV (v_fi rfl GNode.f3 fd133_3 rfl (z := a_n_.con)) ?_
   refine oV (v_loadI ty54 rfl) ?_
   refine oV (v_fi rfl GNode.f6 fd133_6 rfl (z := a_n_.root)) ?_
   refine oV (v_loadI ty3 rfl) ?_
   refine oV (v_fi rfl GNode.f7 fd133_7 rfl (z := a_n_.more)) ?_
   refine oV (v_loadI ty4 rfl) ?_
   refine oV (v_build (z := (GTyp.mk a_n_.kind ([] : (List Tag)) a_n_.con ([] : (List GItem)) ([] : (List GFld)) a_n_.root a_n_.more (0 : Int))) rfl bu58 ze58 (.cons GTyp.f0 fd58_0 rfl (fun _ _ h => h) (.cons GTyp.f2 fd58_2 rfl (fun _ _ h => h) (.cons GTyp.f5 fd58_5 rfl (fun _ _ h => h) (.cons GTyp.f6 fd58_6 rfl (fun _ _ h => h) .nil))))) ?_
   refine oT (t_alloc _ ze58 fun b6 => ?_)
   refine oT (t_storeC (y' := ((GTyp.mk a_n_.kind ([] : (List Tag)) a_n_.con ([] : (List GItem)) ([] : (List GFld)) a_n_.root a_n_.more (0 : Int)) : GTyp)) ty58 rfl rfl (fun _ _ h => h) .here rfl ?_)
   refine rnf ?_
   refine w_seq ?_
   refine wsr ?_
   refine oV (v_fi rfl GNode.f0 fd133_0 rfl (z := a_n_.kind)) ?_
   refine oV (v_loadI ty3 rfl) ?_
   refine oV (v_neq rfl rfl) ?_
   refine rnf ?_
   refine w_J (ι := GTyp) (γ := Unit) (fun q7 g7 => []) (fun q7 g7 => [boxE b6 (q7 : GTyp)]) (.cons .here .nil) h (fun q7 g7 h => ?_) (fun J8 h hJ8 => ?_)
   ·
    refine w_seq ?_
    refine w_J (ι := GMk) (γ := Vt) (fun q11 g11 => [(8, anyv)]) (fun q11 g11 => [boxE b_a_x ((q11.m, (Vh.mk g11 q11.l.length), q11.e) : (GMod × Vh × Int)), vecE g11 (q11.l : List GTyp)]) (.cons (.there .here) (.cons (.there .here) .nil)) h (fun q11 g11 h => ?_) (fun J12 h hJ12 => ?_)
    ·
     refine w_seq ?_
     refine wsr ?_
     refine oV (v_fi rfl GNode.f0 fd133_0 rfl (z := a_n_.kind)) ?_
     refine oV (v_loadI ty3 rfl) ?_
     refine rnf ?_
     refine w_J (ι := GMk) (γ := Vt) (fun q20 g20 => []) (fun q20 g20 => [boxE b_a_x ((q20.m, (Vh.mk g20 q20.l.length), q20.e) : (GMod × Vh × Int)), vecE g20 (q20.l : List GTyp)]) (.cons .here (.cons .here .nil)) h (fun q20 g20 h => ?_) (fun J21 h hJ21 => ?_)
     ·
      refine wsr ?_
      refine oV (v_move rfl) ?_
      refine oV (v_assign rfl) ?_
      refine rnf ?_
      refine w_ret ?_
      refine ret_post (.tmp rfl .nil) (.cons .here (.cons .here .nil)) ?_
      obtain rfl := Option.some.inj h
      exact ⟨g20, rfl, rfl⟩
     ·
      refine w_block ?_
      refine w_seq ?_
      refine wsr ?_
      refine oV (v_eql rfl rfl) ?_
      refine oV (v_assign rfl) ?_
      refine rnf ?_
      refine w_J (ι := Bool) (γ := Unit) (fun q22 g22 => [(57, isv (q22))]) (fun q22 g22 => []) .nil h (fun q22 g22 h => ?_) (fun J23 h hJ23 => ?_)
      ·
       refine w_condM h rfl (fun _ h => ?_) (fun _ h => ?_)
       ·
        refine wsr ?_
        refine oV (v_fi rfl GNode.f3 fd133_3 rfl (z := a_n_.con)) ?_
        refine oV (v_loadI ty54 rfl) ?_
        refine oV (v_fi rfl GNode.f0 fd133_0 rfl (z := a_n_.kind)) ?_
        refine oV (v_loadI ty3 rfl) ?_
        refine oV (v_neq rfl rfl) ?_
        refine cal_inv h fun y24 hy24 h => ?_
        refine oT (t_call (r08_Check_w hy24) hT (.same rfl (.same rfl .nil)) .nil (fun R H' hR => ?_))
        obtain ⟨rfl, rfl⟩ := hR
        refine oV (v_assign rfl) ?_
        refine rnf ?_
        refine w_seq ?_
        refine wsr ?_
        refine oV (v_move rfl) ?_
        refine oV (v_neq rfl rfl) ?_
        refine rnf ?_
        refine w_J (ι := GMk) (γ := Unit) (fun q25 g25 => []) (fun q25 g25 => [boxE b_a_x ((q25.m, (Vh.mk g11 q25.l.length), q25.e) : (GMod × Vh × Int)), vecE g11 (q25.l : List GTyp)]) (.cons .here (.cons .here .nil)) h (fun q25 g25 h => ?_) (fun J26 h hJ26 => ?_)
        ·
         refine wsr ?_
         refine oV (v_fi rfl GNode.f0 fd133_0 rfl (z := a_n_.kind)) ?_
         refine oV (v_loadI ty3 rfl) ?_
         refine oV (v_eql rfl rfl) ?_
         refine rnf ?_
         refine w_condM h rfl (fun _ h => ?_) (fun _ h => ?_)
         ·
          refine wsr ?_
          refine oV (v_move rfl) ?_
          refine oV (v_fi rfl GNode.f8 fd133_8 rfl (z := a_n_.of)) ?_
          refine oV (v_loadI ty3 rfl) ?_
          refine oV (v_move rfl) ?_
          refine ck_inv h fun q28 h => ?_
          refine oV (v_add rfl rfl q28) ?_
          refine cal_inv h fun y29 hy29 h => ?_
          refine oT (t_call (h_r10_maker_node hy29) hT (.same rfl (.same rfl (.same rfl .nil))) (.cons .here (.cons .here .nil)) (fun R H' hR => ?_))
          obtain ⟨v30, rfl, rfl⟩ := hR
          refine oV (v_assign rfl) ?_
          refine rnf ?_
          refine wsr ?_
          refine oV (v_move rfl) ?_
          refine oV (v_nilCheck rfl) ?_
          refine oV (v_fa rfl pt113_0_2 fd113_2) ?_
          refine oT (t_loadC (R := isv (y29.2.e)) ty30 rfl .here (fun _ _ h => h) ?_)
          refine oV (v_eql rfl rfl) ?_
          refine rnf ?_
          refine w_condM h rfl (fun _ h => ?_) (fun _ h => ?_)
          ·
           refine w_region ?_
           refine oV (v_move rfl) ?_
           refine oV (v_nilCheck rfl) ?_
           refine oV (v_fa rfl pt113_0_1 fd113_1) ?_
           refine oT (t_loadC (R := vecv v30 (y29.2.l.length)) ty24 rfl .here isvV1 ?_)
           refine oV (v_move rfl) ?_
           refine oV (v_move rfl) ?_
           refine asd_inv h fun q31 h => ?_
           refine oV (v_vidx (α := GTyp) sl24 rfl rfl q31.1 q31.2) ?_
           refine oV (v_fv rfl GTyp.f7 fd58_7) ?_
           refine cal_inv h fun y32 hy32 h => ?_
           refine oT (t_vstore ty3 rfl rfl (.there .here) hy32 ?_)
           refine rl_upd (upd_box (y := ((y29.2.m, (Vh.mk v30 (y29.2.l.set (((a_x.l.length : Nat) : Int).toNat) ({ y32 with of := y29.1 })).length), y29.2.e) : (GMod × Vh × Int))) (.there .here) (fun S => (Cv.pair Cv.id (Cv.pair (Cv.vhe (by first | rfl | simp)) Cv.id)))) ?_
           refine rl_nil ?_
           refine fin_block ?_
           exact hJ21 _ (v30) h _ (join_imp 35 rfl rfl mod_nil (.cons .here (.cons .here (.cons .here .nil))))
          ·
           refine w_skip ?_
           refine fin_block ?_
           exact hJ21 _ (v30) h _ (join_imp 27 rfl rfl mod_nil (.cons .here (.cons .here (.cons .here .nil))))
         ·
          refine w_skip ?_
          refine fin_block ?_
          exact hJ21 _ (g11) h _ (join_imp 15 rfl rfl mod_nil (.cons .here (.cons .here (.cons .here .nil))))
        ·
         refine w_condM h rfl (fun _ h => ?_) (fun _ h => ?_)
         ·
          refine w_region ?_
          refine oV (v_move rfl) ?_
          refine oV (v_move rfl) ?_
          refine cal_inv h fun y27 hy27 h => ?_
          refine oT (t_call (r10_maker_fail_w hy27) hT (.same rfl (.same rfl .nil)) (.cons .here (.cons .here .nil)) (fun R H' hR => ?_))
          obtain ⟨rfl, rfl⟩ := hR
          refine rl_nil ?_
          exact hJ26 _ () h _ (join_imp 3 rfl rfl mod_nil (.cons .here (.cons .here (.cons .here .nil))))
         ·
          refine w_skip ?_
          exact hJ26 _ () h _ (join_imp 0 rfl rfl mod_nil (.cons .here (.cons .here (.cons .here .nil))))
       ·
        refine wsr ?_
        refine oV (v_eql rfl rfl) ?_
        refine oV (v_assign rfl) ?_
        refine rnf ?_
        refine w_condM h rfl (fun _ h => ?_) (fun _ h => ?_)
        ·
         refine w_regionD (.v 0 (.v 1 (.v 2 (.v 4 (.v 5 (.v 6 (.alt 3 (.t 7 (.v 8 (.v 9 (.t 10 .nil)))) (.t 7 (.t 3 (.v 8 (.v 9 (.t 10 .nil)))))))))))) moOrd (by kernel_rfl) ?_
         refine rd_v rfl (v_move rfl) ?_
         refine rd_v rfl (v_nilCheck rfl) ?_
         refine rd_v rfl (v_fa rfl pt113_0_1 fd113_1) ?_
         refine rd_v rfl (v_move rfl) ?_
         refine rd_v rfl (v_move rfl) ?_
         refine rd_v rfl (v_loadI ty133 rfl) ?_
         refine cal_inv h fun y33 hy33 h => ?_
         refine asd_inv h fun q34 h => ?_
         refine asd_inv h fun q35 h => ?_
         refine cal_inv h fun y36 hy36 h => ?_
         refine rd_two ?_ ?_
         ·
          refine rd_t rfl rfl (t_loadC (R := vecv g11 (q11.l.length)) ty24 rfl .here isvV1 ?_)
          refine rd_t rfl rfl (t_call (r10_maker_items_w hy33) hT (.same rfl (.same rfl .nil)) (.cons .here (.cons .here .nil)) (fun R H' hR => ?_))
          obtain ⟨rfl, rfl⟩ := hR
          refine rd_v rfl (v_vidx (α := GTyp) sl24 rfl rfl q35.1 q35.2) ?_
          refine rd_v rfl (v_fv rfl GTyp.f3 fd58_3) ?_
          refine rd_t rfl rfl (t_vstore ty55 rfl rfl (.there .here) hy36 ?_)
          refine rd_upd (upd_box (y := ((y33.2.m, (Vh.mk g11 (y33.2.l.set (((a_x.l.length : Nat) : Int).toNat) ({ y36 with items := y33.1 })).length), y33.2.e) : (GMod × Vh × Int))) (.there .here) (fun S => (Cv.pair Cv.id (Cv.pair (Cv.vhe (by first | rfl | simp)) Cv.id)))) ?_
          refine rd_nil ?_
          refine fin_block ?_
          exact hJ21 _ (g11) h _ (join_imp 15 rfl rfl mod_nil (.cons .here (.cons .here (.cons .here .nil))))
         ·
          refine rd_t rfl rfl (t_call (r10_maker_items_w hy33) hT (.same rfl (.same rfl .nil)) (.cons .here (.cons .here .nil)) (fun R H' hR => ?_))
          obtain ⟨rfl, rfl⟩ := hR
          refine rd_t rfl rfl (t_loadC (R := vecv g11 (y33.2.l.length)) ty24 rfl .here isvV1 ?_)
          refine rd_v rfl (v_vidx (α := GTyp) sl24 rfl rfl (by omega) (by omega)) ?_
          refine rd_v rfl (v_fv rfl GTyp.f3 fd58_3) ?_
          refine rd_t rfl rfl (t_vstore ty55 rfl rfl (.there .here) hy36 ?_)
          refine rd_upd (upd_box (y := ((y33.2.m, (Vh.mk g11 (y33.2.l.set (((a_x.l.length : Nat) : Int).toNat) ({ y36 with items := y33.1 })).length), y33.2.e) : (GMod × Vh × Int))) (.there .here) (fun S => (Cv.pair Cv.id (Cv.pair (Cv.vhe (by first | rfl | simp)) Cv.id)))) ?_
          refine rd_nil ?_
          refine fin_block ?_
          exact hJ21 _ (g11) h _ (join_imp 15 rfl rfl mod_nil (.cons .here (.cons .here (.cons .here .nil))))
        ·
         refine w_seq ?_
         refine wsr ?_
         refine oV (v_eql rfl rfl) ?_
         refine oV (v_assign rfl) ?_
         refine rnf ?_
         refine w_J (ι := Bool) (γ := Unit) (fun q37 g37 => [(107, isv (q37))]) (fun q37 g37 => []) .nil h (fun q37 g37 h => ?_) (fun J38 h hJ38 => ?_)
         ·
          refine w_condM h rfl (fun _ h => ?_) (fun _ h => ?_)
          ·
           refine w_region ?_
           refine oV (v_move rfl) ?_
           refine oV (v_move rfl) ?_
           refine oV (v_loadI ty133 rfl) ?_
           refine oV (v_move rfl) ?_
           refine cal_inv h fun y39 hy39 h => ?_
           refine oT (t_call (h_r10_maker_fields hy39) hT (.same rfl (.same rfl (.same rfl (.same rfl .nil)))) (.cons .here (.cons .here .nil)) (fun R H' hR => ?_))
           obtain ⟨v40, rfl, rfl⟩ := hR
           refine rl_nil ?_
           refine fin_block ?_
           exact hJ21 _ (v40) h _ (join_imp 13 rfl rfl mod_nil (.cons .here (.cons .here (.cons .here .nil))))
          ·
           refine w_skip ?_
           refine fin_block ?_
           exact hJ21 _ (g11) h _ (join_imp 8 rfl rfl mod_nil (.cons .here (.cons .here (.cons .here .nil))))
         ·
          refine w_condM h rfl (fun _ h => ?_) (fun _ h => ?_)
          ·
           refine w_skip ?_
           exact hJ38 _ () h _ (join_imp 0 rfl rfl (mod_cons (j := 107) rfl (fun _ _ h => h) mod_nil) (.cons .here (.cons .here (.cons .here .nil))))
          ·
           refine wsr ?_
           refine oV (v_eql rfl rfl) ?_
           refine oV (v_assign rfl) ?_
           refine rnf ?_
           refine w_condM h rfl (fun _ h => ?_) (fun _ h => ?_)
           ·
            refine w_skip ?_
            exact hJ38 _ () h _ (join_imp 2 rfl rfl (mod_cons (j := 107) rfl (fun _ _ h => h) mod_nil) (.cons .here (.cons .here (.cons .here .nil))))
           ·
            refine w_region ?_
            refine oV (v_eql rfl rfl) ?_
            refine oV (v_assign rfl) ?_
            refine rl_nil ?_
            exact hJ38 _ () h _ (join_imp 4 rfl rfl (mod_cons (j := 107) rfl (fun _ _ h => h) mod_nil) (.cons .here (.cons .here (.cons .here .nil))))
      ·
       refine w_condM h rfl (fun _ h => ?_) (fun _ h => ?_)
       ·
        refine w_skip ?_
        exact hJ23 _ () h _ (join_imp 0 rfl rfl (mod_cons (j := 57) rfl (fun _ _ h => h) mod_nil) (.cons .here (.cons .here (.cons .here .nil))))
       ·
        refine wsr ?_
        refine oV (v_eql rfl rfl) ?_
        refine oV (v_assign rfl) ?_
        refine rnf ?_
        refine w_condM h rfl (fun _ h => ?_) (fun _ h => ?_)
        ·
         refine w_skip ?_
         exact hJ23 _ () h _ (join_imp 2 rfl rfl (mod_cons (j := 57) rfl (fun _ _ h => h) mod_nil) (.cons .here (.cons .here (.cons .here .nil))))
        ·
         refine wsr ?_
         refine oV (v_eql rfl rfl) ?_
         refine oV (v_assign rfl) ?_
         refine rnf ?_
         refine w_condM h rfl (fun _ h => ?_) (fun _ h => ?_)
         ·
          refine w_skip ?_
          exact hJ23 _ () h _ (join_imp 4 rfl rfl (mod_cons (j := 57) rfl (fun _ _ h => h) mod_nil) (.cons .here (.cons .here (.cons .here .nil))))
         ·
          refine w_region ?_
          refine oV (v_eql rfl rfl) ?_
          refine oV (v_assign rfl) ?_
          refine rl_nil ?_
          exact hJ23 _ () h _ (join_imp 6 rfl rfl (mod_cons (j := 57) rfl (fun _ _ h => h) mod_nil) (.cons .here (.cons .here (.cons .here .nil))))
    ·
     refine w_pinN 8 .here rfl (fun o13 hn14 => ?_)
     refine w_regionD (.v 0 (.v 1 (.v 2 (.v 3 (.v 5 (.alt 4 (.t 6 (.t 7 (.v 8 (.v 9 (.t 10 .nil))))) (.t 6 (.t 4 (.t 7 (.v 8 (.v 9 (.t 10 .nil)))))))))))) moOrd (by kernel_rfl) ?_
     refine rd_v rfl (v_move rfl) ?_
     refine rd_v rfl (v_move rfl) ?_
     refine rd_v rfl (v_nilCheck rfl) ?_
     refine rd_v rfl (v_fa rfl pt113_0_1 fd113_1) ?_
     refine rd_v rfl (v_lpC (R := isv (q7)) ty58 rfl (List.Mem.head _) (fun _ _ h => h)) ?_
     refine asr_inv h fun q17 h => ?_
     refine rd_two ?_ ?_
     ·
      refine rd_t rfl rfl (t_loadC (R := vecv v_a_x1 (a_x.l.length)) ty24 rfl .here isvV1 ?_)
      refine rd_t rfl rfl (t_buildSlice (l := ([q7] : (List GTyp))) el24 (.cons rfl (fun _ _ h => h) .nil) rfl rfl ?_)
      refine rd_t rfl rfl (t_vappF (m := ([q7] : (List GTyp))) ap24_24 rfl rfl appv_isv (.there .here) (by first | rfl | simp) q17 fun v16 => ?_)
      refine rd_v rfl (v_nilCheck rfl) ?_
      refine rd_v rfl (v_fa rfl pt113_0_1 fd113_1) ?_
      refine rd_t rfl rfl (t_storeC (y' := ((a_x.m, (Vh.mk v16 (a_x.l ++ ([q7] : (List GTyp))).length), a_x.e) : (GMod × Vh × Int))) ty24 rfl rfl isvV2 (.there .here) rfl ?_)
      refine rd_nil ?_
      refine fin_unpinN 8 hn14 rfl ?_
      exact hJ12 _ (v16) h _ (join_imp 12 rfl rfl (mod_cons (j := 8) rfl (fun _ _ _ => trivial) mod_nil) (.cons (.there .here) (.cons (.there .here) (.cons .here .nil))))
     ·
      refine rd_t rfl rfl (t_buildSlice (l := ([q7] : (List GTyp))) el24 (.cons rfl (fun _ _ h => h) .nil) rfl rfl ?_)
      refine rd_t rfl rfl (t_loadC (R := vecv v_a_x1 (a_x.l.length)) ty24 rfl .here isvV1 ?_)
      refine rd_t rfl rfl (t_vappF (m := ([q7] : (List GTyp))) ap24_24 rfl rfl appv_isv (.there .here) (by first | rfl | simp) q17 fun v19 => ?_)
      refine rd_v rfl (v_nilCheck rfl) ?_
      refine rd_v rfl (v_fa rfl pt113_0_1 fd113_1) ?_
      refine rd_t rfl rfl (t_storeC (y' := ((a_x.m, (Vh.mk v19 (a_x.l ++ ([q7] : (List GTyp))).length), a_x.e) : (GMod × Vh × Int))) ty24 rfl rfl isvV2 (.there .here) rfl ?_)
      refine rd_nil ?_
      refine fin_unpinN 8 hn14 rfl ?_
      exact hJ12 _ (v19) h _ (join_imp 12 rfl rfl (mod_cons (j := 8) rfl (fun _ _ _ => trivial) mod_nil) (.cons (.there .here) (.cons (.there .here) (.cons .here .nil))))
   ·
    refine w_condM h rfl (fun _ h => ?_) (fun _ h => ?_)
    ·
     refine w_region ?_
     refine oV (v_fi rfl GNode.f0 fd133_0 rfl (z := a_n_.kind)) ?_
     refine oV (v_loadI ty3 rfl) ?_
     refine cal_inv h fun y9 hy9 h => ?_
     refine oT (t_call (r09_Universal_w hy9) hT (.same rfl .nil) .nil (fun R H' hR => ?_))
     obtain ⟨rfl, rfl⟩ := hR
     refine oT (t_buildSlice (l := ([y9] : (List Tag))) el52 (.cons rfl (fun _ _ h => h) .nil) rfl rfl ?_)
     refine oV (v_fa rfl GTyp.f1 fd58_1) ?_
     refine oT (t_storeC (y' := ((GTyp.mk a_n_.kind ([y9] : (List Tag)) a_n_.con ([] : (List GItem)) ([] : (List GFld)) a_n_.root a_n_.more (0 : Int)) : GTyp)) ty52 rfl rfl appv_isv .here rfl ?_)
     refine rl_nil ?_
     exact hJ8 _ () h _ (join_imp 5 rfl rfl mod_nil (.cons .here (.cons .here (.cons .here .nil))))
    ·
     refine w_skip ?_
     exact hJ8 _ () h _ (join_imp 0 rfl rfl mod_nil (.cons .here (.cons .here (.cons .here .nil))))
 ·
  refine rl_condM (j := 13) h rfl (fun g4 h => ?_) (fun g4 h => ?_)
  ·
   refine op_pass rfl (dj := 13) rfl g4 ?_
   refine op_pass rfl (dj := 13) rfl g4 ?_
   refine op_pass rfl (dj := 13) rfl g4 ?_
   refine op_pass rfl (dj := 13) rfl g4 ?_
   refine op_pass rfl (dj := 13) rfl g4 ?_
   refine op_pass rfl (dj := 13) rfl g4 ?_
   refine oV (v_pick_t rfl g4 rfl) ?_
   exact hJ3 _ () h _ (join_imp 7 rfl rfl (mod_cons (j := 20) rfl (fun _ _ h => h) mod_nil) (.cons .here (.cons .here .nil)))
  ·
   refine op_take rfl rfl (dj := 13) rfl g4 (OpV.t (v_move rfl) ?_)
   refine op_take rfl rfl (dj := 13) rfl g4 (OpV.t (v_nilCheck rfl) ?_)
   refine op_take rfl rfl (dj := 13) rfl g4 (OpV.t (v_fa rfl pt113_0_1 fd113_1) ?_)
   refine op_take rfl rfl (dj := 13) rfl g4 (t_loadC (R := vecv v_a_x1 (a_x.l.length)) ty24 rfl .here isvV1 ?_)
   refine op_take rfl rfl (dj := 13) rfl g4 (OpV.t (v_vlen sl24 rfl) ?_)
   refine op_take rfl rfl (dj := 13) rfl g4 (OpV.t (v_geq rfl rfl) ?_)
   refine oV (v_pick_f rfl g4 rfl) ?_
   exact hJ3 _ () h _ (join_imp 7 rfl rfl (mod_cons (j := 20) rfl (fun _ _ h => h) mod_nil) (.cons .here (.cons .here .nil)))

theorem r10_maker_fields_grp_w : ∀ n, r10_maker_fields_C (r10_maker_fields n) ∧ r10_maker_node_C (r10_maker_node n) ∧ r10_maker_made_C (r10_maker_made n)
 | 0 => ⟨fun h => (by cases h), fun h => (by cases h), fun h => (by cases h)⟩
 | n + 1 => by
  obtain ⟨h0, h1, h2⟩ := r10_maker_fields_grp_w n
  exact ⟨r10_maker_fields_w0 h0 h1 h2, r10_maker_node_w0 h0 h1 h2, r10_maker_made_w0 h0 h1 h2⟩
theorem r10_maker_fields_w (n : Nat) : r10_maker_fields_C (r10_maker_fields n) := (r10_maker_fields_grp_w n).1
theorem r10_maker_node_w (n : Nat) : r10_maker_node_C (r10_maker_node n) := (r10_maker_fields_grp_w n).2.1
theorem r10_maker_made_w (n : Nat) : r10_maker_made_C (r10_maker_made n) := (r10_maker_fields_grp_w n).2.2

theorem r10_Make_w : ∀ {a_m : GMod} {r : GTab × Int × Int}, r10_Make a_m = some r → Ctr Tryd.prog 33 [isv (a_m)] [] (fun R H => R = oneOf [isv (r.1), isv (r.2.1), isv (r.2.2)] ∧ H = []) := by
 intro a_m r h
 unfold r10_Make at h
 refine spec_intro Tryd.func33 rfl (by decide +kernel) (by rfl) fun w0 S0 hT => ?_
 refine wsr ?_
 refine oT (t_boxIC (y := a_m) rfl (fun _ _ h => h) ?_)
 refine oT (t_alloc _ ze26 fun b1 => ?_)
 refine oV (v_assign rfl) ?_
 refine oV (v_assign rfl) ?_
 refine rnf ?_
 refine wsr ?_
 refine oV (v_loadI ty75 rfl) ?_
 refine cal_inv h fun y2 hy2 h => ?_
 refine oT (t_call (r07_Order_w hy2) hT (.same rfl .nil) .nil (fun R H' hR => ?_))
 obtain ⟨rfl, rfl⟩ := hR
 refine oV (v_move rfl) ?_
 refine oV (v_extract rfl rfl) ?_
 refine oV (v_extract rfl rfl) ?_
 refine oV (v_extract rfl rfl) ?_
 refine oV (v_assign rfl) ?_
 refine oV (v_assign rfl) ?_
 refine oV (v_assign rfl) ?_
 refine rnf ?_
 refine w_seq ?_
 refine wsr ?_
 refine oV (v_move rfl) ?_
 refine oV (v_neq rfl rfl) ?_
 refine rnf ?_
 refine w_condM h rfl (fun _ h => ?_) (fun _ h => ?_)
 ·
  refine wsr ?_
  refine oV (v_build (z := (GTab.mk (Str.mk []) ([] : (List Str)) ([] : (List Int)) ([] : (List GTyp)))) rfl bu26 ze26 .nil) ?_
  refine oV (v_move rfl) ?_
  refine oV (v_move rfl) ?_
  refine oT (t_storeC (y' := ((GTab.mk (Str.mk []) ([] : (List Str)) ([] : (List Int)) ([] : (List GTyp))) : GTab)) ty26 rfl rfl (fun _ _ h => h) .here rfl ?_)
  refine oV (v_assign rfl) ?_
  refine oV (v_assign rfl) ?_
  refine rnf ?_
  refine w_ret ?_
  refine ret_nxt ?_
  refine ret_post (.cell rfl .here ty26 (.tmp rfl (.tmp rfl .nil))) .nil ?_
  obtain rfl := Option.some.inj h
  exact ⟨rfl, rfl⟩
 ·
  refine wkf ?_
  refine wsr ?_
  refine oV (v_loadI ty75 rfl) ?_
  refine oV (v_build (z := ((a_m, (Vh.mk none 0), (0 : Int)) : (GMod × Vh × Int))) rfl bu113 zt113_2 (.cons pt113_0_0 fd113_0 rfl (fun _ _ h => h) .nil)) ?_
  refine oT (t_boxC (y := ((a_m, (Vh.mk none 0), (0 : Int)) : (GMod × Vh × Int))) rfl (fun _ _ h => h) fun b3 => ?_)
  refine rl_upd (upd_vec (α := GTyp)) ?_
  refine oV (v_assign rfl) ?_
  refine rnf ?_
  refine w_seq ?_
  refine w_J (ι := GTab) (γ := Nat × Tok) (fun q5 g5 => [(9, ptrv g5.1 (Fld.id (Str × (List Str) × (TList Int) × (List GTyp))))]) (fun q5 g5 => [boxE g5.1 ((q5.name, q5.names, (TList.mk g5.2 q5.roots), q5.types) : (Str × (List Str) × (TList Int) × (List GTyp))), tokE g5.2]) .nil h (fun q5 g5 h => ?_) (fun J6 h hJ6 => ?_)
  ·
   refine w_seq ?_
   refine wsr ?_
   refine oV (v_assign rfl) ?_
   refine rnf ?_
   refine w_block ?_
   refine w_lp (ι := Int × GTab × GMk) (γ := Tok × Vt) (fun q16 g16 => [(10, isv (q16.1))]) (fun q16 g16 => [boxE g5.1 ((q16.2.1.name, q16.2.1.names, (TList.mk g16.1 q16.2.1.roots), q16.2.1.types) : (Str × (List Str) × (TList Int) × (List GTyp))), tokE g16.1, boxE b3 ((q16.2.2.m, (Vh.mk g16.2 q16.2.2.l.length), q16.2.2.e) : (GMod × Vh × Int)), vecE g16.2 (q16.2.2.l : List GTyp)]) h (g5.2, none) (mod_cons (j := 10) rfl (fun _ _ h => h) mod_nil) (.cons .here (.cons .here (.cons (.there .here) (.cons .here .nil)))) (fun L17 q16 g16 Q50 h hL17 eL17 rL17 => ?_)
   refine w_seq ?_
   refine wsr ?_
   refine oV (v_move rfl) ?_
   refine oV (v_fi rfl GMod.f2 fd75_2 rfl (z := a_m.names)) ?_
   refine oV (v_loadI ty22 rfl) ?_
   refine oV (v_ln (l := a_m.names) rfl (fun _ _ h => h) sl22) ?_
   refine oV (v_lss rfl rfl) ?_
   refine rnf ?_
   refine w_condM h rfl (fun _ h => ?_) (fun _ h => ?_)
   ·
    refine wkf ?_
    refine w_seq ?_
    refine w_block ?_
    refine w_seq ?_
    refine w_J (ι := GTab × GMk) (γ := Tok × Vt) (fun q34 g34 => []) (fun q34 g34 => [boxE g5.1 ((q34.1.name, q34.1.names, (TList.mk g34.1 q34.1.roots), q34.1.types) : (Str × (List Str) × (TList Int) × (List GTyp))), tokE g34.1, boxE b3 ((q34.2.m, (Vh.mk g34.2 q34.2.l.length), q34.2.e) : (GMod × Vh × Int)), vecE g34.2 (q34.2.l : List GTyp)]) (.cons .here (.cons (.there .here) (.cons .here (.cons .here .nil)))) h (fun q34 g34 h => ?_) (fun J35 h hJ35 => ?_)
    ·
     refine wsr ?_
     refine oV (v_move rfl) ?_
     refine oV (v_nilCheck rfl) ?_
     refine oV (v_fa rfl pt113_0_2 fd113_2) ?_
     refine oT (t_loadC (R := isv (q34.2.e)) ty30 rfl (.there (.there .here)) (fun _ _ h => h) ?_)
     refine oV (v_neq rfl rfl) ?_
     refine rnf ?_
     refine w_condM h rfl (fun _ h => ?_) (fun _ h => ?_)
     ·
      refine w_seq ?_
      refine w_pinN 8 (.there (.there .here)) rfl (fun o47 hn48 => ?_)
      refine w_regionD (.v 0 (.v 1 (.v 2 (.v 3 (.v 4 (.v 5 (.t 6 (.v 7 (.v 8 .nil))))))))) moOrd (by kernel_rfl) ?_
      refine rd_v rfl (v_build (z := (GTab.mk (Str.mk []) ([] : (List Str)) ([] : (List Int)) ([] : (List GTyp)))) rfl bu26 ze26 .nil) ?_
      refine rd_v rfl (v_move rfl) ?_
      refine rd_v rfl (v_move rfl) ?_
      refine rd_v rfl (v_nilCheckP rfl) ?_
      refine rd_v rfl (v_fp rfl pt113_0_2 fd113_2) ?_
      refine rd_v rfl (v_lpC (R := isv (q34.2.e)) ty30 rfl (List.Mem.head _) (fun _ _ h => h)) ?_
      refine rd_t rfl rfl (t_storeC (y' := ((GTab.mk (Str.mk []) ([] : (List Str)) ([] : (List Int)) ([] : (List GTyp))) : GTab)) ty26 rfl rfl (fun _ _ h => h) (.there (.there (.there .here))) rfl ?_)
      refine rd_v rfl (v_assign rfl) ?_
      refine rd_v rfl (v_assign rfl) ?_
      refine rd_nil ?_
      refine fin_unpinN 8 hn48 rfl ?_
      refine fin_nxt ?_
      refine w_ret ?_
      refine ret_block ?_
      refine ret_nxt ?_
      refine rL17 _ ?_
      refine ret_block ?_
      refine ret_nxt ?_
      refine ret_post (.cell rfl (.there .here) ty26 (.tmp rfl (.tmp rfl .nil))) .nil ?_
      obtain rfl := Option.some.inj h
      exact ⟨rfl, rfl⟩
     ·
      refine w_skip ?_
      refine fin_block ?_
      refine fin_nxt ?_
      refine w_region ?_
      refine oV (v_move rfl) ?_
      refine ck_inv h fun q49 h => ?_
      refine oV (v_add rfl rfl q49) ?_
      refine oV (v_assign rfl) ?_
      refine rl_nil ?_
      exact hL17 _ (g34.1, g34.2) h _ (join_imp 14 rfl rfl (mod_cons (j := 10) rfl (fun _ _ h => h) mod_nil) (.cons .here (.cons .here (.cons .here (.cons .here (.cons .here .nil))))))
    ·
     refine w_regionD (.v 0 (.v 2 (.v 3 (.v 4 (.v 5 (.v 6 (.v 7 (.alt 1 (.t 8 (.t 9 (.t 10 (.v 11 (.t 12 .nil))))) (.t 8 (.alt 1 (.t 9 (.t 10 (.v 11 (.t 12 .nil)))) (.t 9 (.t 1 (.t 10 (.v 11 (.t 12 .nil))))))))))))))) moOrd (by kernel_rfl) ?_
     refine rd_v rfl (v_fa rfl pt26_0_2 fd26_2) ?_
     refine rd_v rfl (v_move rfl) ?_
     refine rd_v rfl (v_fi rfl GMod.f3 fd75_3 rfl (z := a_m.types)) ?_
     refine rd_v rfl (v_loadI ty23 rfl) ?_
     refine rd_v rfl (v_move rfl) ?_
     refine cal_inv h fun y36 hy36 h => ?_
     refine rd_v rfl (v_ix (l := a_m.types) rfl (fun _ _ h => h) rfl sl23 hy36) ?_
     refine rd_v rfl (v_loadI ty3 rfl) ?_
     refine cal_inv h fun y37 hy37 h => ?_
     refine asr_inv h fun q41 h => ?_
     refine rd_two ?_ ?_
     ·
      refine rd_t rfl rfl (t_loadC (R := appv g16.1 (q16.2.1.roots)) ty23 rfl .here isvT1 ?_)
      refine rd_t rfl rfl (t_call (r10_maker_node_w fuel hy37) hT (.same rfl (.same rfl (.same rfl .nil))) (.cons (.there (.there .here)) (.cons (.there (.there .here)) .nil)) (fun R H' hR => ?_))
      obtain ⟨v38, rfl, rfl⟩ := hR
      refine rd_t rfl rfl (t_buildSlice (l := ([y37.1] : (List Int))) el23 (.cons rfl (fun _ _ h => h) .nil) rfl rfl ?_)
      refine rd_t rfl rfl (t_appC (l := q16.2.1.roots) (m := ([y37.1] : (List Int))) ap23_23 rfl (fun _ _ h => h) rfl appv_isv (.there (.there (.there .here))) q41 fun t40 => ?_)
      refine rd_v rfl (v_fa rfl pt26_0_2 fd26_2) ?_
      refine rd_t rfl rfl (t_storeC (y' := ((q16.2.1.name, q16.2.1.names, (TList.mk t40 (q16.2.1.roots ++ ([y37.1] : (List Int)))), q16.2.1.types) : (Str × (List Str) × (TList Int) × (List GTyp)))) ty23 rfl rfl isvT2 (.there (.there (.there .here))) rfl ?_)
      refine rd_nil ?_
      exact hJ35 _ (t40, v38) h _ (join_imp 12 rfl rfl mod_nil (.cons .here (.cons .here (.cons .here (.cons .here (.cons .here .nil))))))
     ·
      refine rd_t rfl rfl (t_call (r10_maker_node_w fuel hy37) hT (.same rfl (.same rfl (.same rfl .nil))) (.cons (.there (.there .here)) (.cons (.there (.there .here)) .nil)) (fun R H' hR => ?_))
      obtain ⟨v42, rfl, rfl⟩ := hR
      refine rd_two ?_ ?_
      ·
       refine rd_t rfl rfl (t_loadC (R := appv g16.1 (q16.2.1.roots)) ty23 rfl (.there (.there .here)) isvT1 ?_)
       refine rd_t rfl rfl (t_buildSlice (l := ([y37.1] : (List Int))) el23 (.cons rfl (fun _ _ h => h) .nil) rfl rfl ?_)
       refine rd_t rfl rfl (t_appC (l := q16.2.1.roots) (m := ([y37.1] : (List Int))) ap23_23 rfl (fun _ _ h => h) rfl appv_isv (.there (.there (.there .here))) q41 fun t44 => ?_)
       refine rd_v rfl (v_fa rfl pt26_0_2 fd26_2) ?_
       refine rd_t rfl rfl (t_storeC (y' := ((q16.2.1.name, q16.2.1.names, (TList.mk t44 (q16.2.1.roots ++ ([y37.1] : (List Int)))), q16.2.1.types) : (Str × (List Str) × (TList Int) × (List GTyp)))) ty23 rfl rfl isvT2 (.there (.there (.there .here))) rfl ?_)
       refine rd_nil ?_
       exact hJ35 _ (t44, v42) h _ (join_imp 12 rfl rfl mod_nil (.cons .here (.cons .here (.cons .here (.cons .here (.cons .here .nil))))))
      ·
       refine rd_t rfl rfl (t_buildSlice (l := ([y37.1] : (List Int))) el23 (.cons rfl (fun _ _ h => h) .nil) rfl rfl ?_)
       refine rd_t rfl rfl (t_loadC (R := appv g16.1 (q16.2.1.roots)) ty23 rfl (.there (.there .here)) isvT1 ?_)
       refine rd_t rfl rfl (t_appC (l := q16.2.1.roots) (m := ([y37.1] : (List Int))) ap23_23 rfl (fun _ _ h => h) rfl appv_isv (.there (.there (.there .here))) q41 fun t46 => ?_)
       refine rd_v rfl (v_fa rfl pt26_0_2 fd26_2) ?_
       refine rd_t rfl rfl (t_storeC (y' := ((q16.2.1.name, q16.2.1.names, (TList.mk t46 (q16.2.1.roots ++ ([y37.1] : (List Int)))), q16.2.1.types) : (Str × (List Str) × (TList Int) × (List GTyp)))) ty23 rfl rfl isvT2 (.there (.there (.there .here))) rfl ?_)
       refine rd_nil ?_
       exact hJ35 _ (t46, v42) h _ (join_imp 12 rfl rfl mod_nil (.cons .here (.cons .here (.cons .here (.cons .here (.cons .here .nil))))))
   ·
    refine w_exit ?_
    refine exi_nxt ?_
    refine eL17 _ _ ?_
    refine exi_block ?_
    refine fin_nxt ?_
    refine wsr ?_
    refine oV (v_move rfl) ?_
    refine oV (v_nilCheck rfl) ?_
    refine oV (v_fa rfl pt113_0_1 fd113_1) ?_
    refine oT (t_loadC (R := vecv g16.2 (q16.2.2.l.length)) ty24 rfl (.there (.there .here)) isvV1 ?_)
    refine oV (v_fa rfl pt26_0_3 fd26_3) ?_
    refine rl_upd (upd_frzF 64 (.there (.there (.there .here))) rfl (by first | rfl | simp)) ?_
    refine oT (t_storeC (y' := ((q16.2.1.name, q16.2.1.names, (TList.mk g16.1 q16.2.1.roots), q16.2.2.l) : (Str × (List Str) × (TList Int) × (List GTyp)))) ty24 rfl rfl (fun _ _ h => h) .here rfl ?_)
    refine rnf ?_
    refine wsr ?_
    refine oT (t_loadC (y := ((q16.2.1.name, q16.2.1.names, (TList.mk g16.1 q16.2.1.roots), q16.2.2.l) : (Str × (List Str) × (TList Int) × (List GTyp)))) (R := isv (((q16.2.1.name, q16.2.1.names, (TList.mk g16.1 q16.2.1.roots), q16.2.2.l)) : ((Str × (List Str) × (TList Int) × (List GTyp))))) ty26 rfl .here (by exact (fun _ _ h => h)) ?_)
    refine rl_upd (upd_slot (R' := isv ((GTab.mk q16.2.1.name q16.2.1.names q16.2.1.roots q16.2.2.l))) 66 rfl (Cv.isv rfl fun S => (fun cs h => GTab.cv (x := (GTab.mk q16.2.1.name q16.2.1.names q16.2.1.roots q16.2.2.l)) cs (((Cv.pair Cv.id (Cv.pair Cv.id (Cv.pair Cv.tl Cv.id))) : Cv S ((q16.2.1.name, q16.2.1.names, (TList.mk g16.1 q16.2.1.roots), q16.2.2.l) : (Str × (List Str) × (TList Int) × (List GTyp))) (GTab.to (GTab.mk q16.2.1.name q16.2.1.names q16.2.1.roots q16.2.2.l))) cs h)))) ?_
    refine oT (t_storeC (y' := ((GTab.mk q16.2.1.name q16.2.1.names q16.2.1.roots q16.2.2.l) : GTab)) ty26 rfl rfl (fun _ _ h => h) (.there (.there (.there .here))) rfl ?_)
    refine oV (v_assign rfl) ?_
    refine oV (v_assign rfl) ?_
    refine rnf ?_
    refine w_ret ?_
    refine ret_post (.cell rfl .here ty26 (.tmp rfl (.tmp rfl .nil))) .nil ?_
    obtain rfl := Option.some.inj h
    exact ⟨rfl, rfl⟩
  ·
   refine w_regionD (.v 0 (.v 1 (.v 2 (.v 3 (.alt 4 (.v 5 (.t 6 (.t 7 .nil))) (.t 6 (.t 4 (.v 5 (.t 7 .nil))))))))) moOrd (by kernel_rfl) ?_
   refine rd_v rfl (v_fi rfl GMod.f0 fd75_0 rfl (z := a_m.name)) ?_
   refine rd_v rfl (v_loadI ty9 rfl) ?_
   refine rd_v rfl (v_fi rfl GMod.f2 fd75_2 rfl (z := a_m.names)) ?_
   refine rd_v rfl (v_loadI ty22 rfl) ?_
   refine asr_inv h fun q8 h => ?_
   refine rd_two ?_ ?_
   ·
    refine rd_t rfl rfl (t_appN (m := a_m.names) ap22_22 rfl rfl (fun _ _ h => h) q8 fun t7 => ?_)
    refine rd_v rfl (v_build (z := ((a_m.name, (([] : (List Str)) ++ a_m.names), (TList.mk none ([] : (List Int))), ([] : (List GTyp))) : (Str × (List Str) × (TList Int) × (List GTyp)))) rfl bu26 zt26_3 (.cons pt26_0_0 fd26_0 rfl (fun _ _ h => h) (.cons pt26_0_1 fd26_1 rfl appv_isv .nil))) ?_
    refine rd_t rfl rfl (t_alloc _ zt26_3 fun b9 => ?_)
    refine rd_upd (upd_tok) ?_
    refine rd_upd (upd_tok) ?_
    refine rd_t rfl rfl (t_storeC (y' := ((a_m.name, (([] : (List Str)) ++ a_m.names), (TList.mk none ([] : (List Int))), ([] : (List GTyp))) : (Str × (List Str) × (TList Int) × (List GTyp)))) ty26 rfl rfl (fun _ _ h => h) (.there (.there .here)) rfl ?_)
    refine rd_nil ?_
    exact hJ6 _ (b9, none) h _ (join_imp 7 rfl rfl (mod_cons (j := 9) rfl (fun _ _ h => h) mod_nil) (.cons .here (.cons .here (.cons (.there (.there .here)) (.cons (.there (.there .here)) (.cons (.there (.there .here)) .nil))))))
   ·
    refine rd_t rfl rfl (t_alloc _ zt26_3 fun b12 => ?_)
    refine rd_upd (upd_tok) ?_
    refine rd_t rfl rfl (t_appN (m := a_m.names) ap22_22 rfl rfl (fun _ _ h => h) q8 fun t14 => ?_)
    refine rd_v rfl (v_build (z := ((a_m.name, (([] : (List Str)) ++ a_m.names), (TList.mk none ([] : (List Int))), ([] : (List GTyp))) : (Str × (List Str) × (TList Int) × (List GTyp)))) rfl bu26 zt26_3 (.cons pt26_0_0 fd26_0 rfl (fun _ _ h => h) (.cons pt26_0_1 fd26_1 rfl appv_isv .nil))) ?_
    refine rd_upd (upd_tok) ?_
    refine rd_t rfl rfl (t_storeC (y' := ((a_m.name, (([] : (List Str)) ++ a_m.names), (TList.mk none ([] : (List Int))), ([] : (List GTyp))) : (Str × (List Str) × (TList Int) × (List GTyp)))) ty26 rfl rfl (fun _ _ h => h) (.there (.there (.there .here))) rfl ?_)
    refine rd_nil ?_
    exact hJ6 _ (b12, none) h _ (join_imp 7 rfl rfl (mod_cons (j := 9) rfl (fun _ _ h => h) mod_nil) (.cons .here (.cons .here (.cons (.there (.there .here)) (.cons (.there (.there .here)) (.cons (.there (.there .here)) .nil))))))


theorem oghamplay_Table_w : ∀ {a_text : Str} {r : GTab × Bool}, oghamplay_Table a_text = some r → Ctr Tryd.prog 12 [isv (a_text)] [] (fun R H => R = oneOf [isv (r.1), isv (r.2)] ∧ H = []) := by
 intro a_text r h
 unfold oghamplay_Table at h
 refine spec_intro Tryd.func12 rfl (by decide +kernel) (by rfl) fun w0 S0 hT => ?_
 refine wsr ?_
 refine oT (t_alloc _ ze26 fun b1 => ?_)
 refine oV (v_assign rfl) ?_
 refine rnf ?_
 refine w_seq ?_
 refine wsr ?_
 refine oV (v_move rfl) ?_
 refine oV (v_lenS st9 rfl) ?_
 refine oV (v_gtr rfl rfl) ?_
 refine rnf ?_
 refine w_condM h rfl (fun _ h => ?_) (fun _ h => ?_)
 ·
  refine wsr ?_
  refine oV (v_build (z := (GTab.mk (Str.mk []) ([] : (List Str)) ([] : (List Int)) ([] : (List GTyp)))) rfl bu26 ze26 .nil) ?_
  refine oT (t_storeC (y' := ((GTab.mk (Str.mk []) ([] : (List Str)) ([] : (List Int)) ([] : (List GTyp))) : GTab)) ty26 rfl rfl (fun _ _ h => h) .here rfl ?_)
  refine oV (v_assign rfl) ?_
  refine rnf ?_
  refine w_ret ?_
  refine ret_nxt ?_
  refine ret_post (.cell rfl .here ty26 (.tmp rfl .nil)) .nil ?_
  obtain rfl := Option.some.inj h
  exact ⟨rfl, rfl⟩
 ·
  refine wkf ?_
  refine wsr ?_
  refine oV (v_move rfl) ?_
  refine cal_inv h fun y2 hy2 h => ?_
  refine oT (t_call (r05_Parse_w hy2) hT (.same rfl .nil) .nil (fun R H' hR => ?_))
  obtain ⟨rfl, rfl⟩ := hR
  refine oV (v_move rfl) ?_
  refine oV (v_extract rfl rfl) ?_
  refine oV (v_extract rfl rfl) ?_
  refine oV (v_extract rfl rfl) ?_
  refine oT (t_alloc _ ze75 fun b3 => ?_)
  refine oT (t_storeC (y' := (y2.1 : GMod)) ty75 rfl rfl (fun _ _ h => h) .here rfl ?_)
  refine rl_upd (upd_imm 4 .here rfl) ?_
  refine oV (v_assign rfl) ?_
  refine oV (v_assign rfl) ?_
  refine rnf ?_
  refine w_seq ?_
  refine wsr ?_
  refine oV (v_move rfl) ?_
  refine oV (v_neq rfl rfl) ?_
  refine rnf ?_
  refine w_condM h rfl (fun _ h => ?_) (fun _ h => ?_)
  ·
   refine wsr ?_
   refine oV (v_build (z := (GTab.mk (Str.mk []) ([] : (List Str)) ([] : (List Int)) ([] : (List GTyp)))) rfl bu26 ze26 .nil) ?_
   refine oT (t_storeC (y' := ((GTab.mk (Str.mk []) ([] : (List Str)) ([] : (List Int)) ([] : (List GTyp))) : GTab)) ty26 rfl rfl (fun _ _ h => h) .here rfl ?_)
   refine oV (v_assign rfl) ?_
   refine rnf ?_
   refine w_ret ?_
   refine ret_nxt ?_
   refine ret_post (.cell rfl .here ty26 (.tmp rfl .nil)) .nil ?_
   obtain rfl := Option.some.inj h
   exact ⟨rfl, rfl⟩
  ·
   refine wkf ?_
   refine wsr ?_
   refine oV (v_loadI ty75 rfl) ?_
   refine cal_inv h fun y4 hy4 h => ?_
   refine oT (t_call (r10_Make_w hy4) hT (.same rfl .nil) .nil (fun R H' hR => ?_))
   obtain ⟨rfl, rfl⟩ := hR
   refine oV (v_move rfl) ?_
   refine oV (v_extract rfl rfl) ?_
   refine oV (v_extract rfl rfl) ?_
   refine oV (v_extract rfl rfl) ?_
   refine oT (t_alloc _ ze26 fun b5 => ?_)
   refine oT (t_storeC (y' := (y4.1 : GTab)) ty26 rfl rfl (fun _ _ h => h) .here rfl ?_)
   refine rl_upd (upd_imm 7 .here rfl) ?_
   refine oV (v_assign rfl) ?_
   refine oV (v_assign rfl) ?_
   refine rnf ?_
   refine w_seq ?_
   refine w_regionD (.v 0 (.v 1 (.v 2 (.v 3 (.v 4 (.v 5 (.v 6 (.v 7 (.v 8 (.t 9 (.v 10 .nil))))))))))) moOrd (by kernel_rfl) ?_
   refine rd_v rfl (v_loadI ty26 rfl) ?_
   refine rd_v rfl (v_move rfl) ?_
   refine rd_v rfl (v_eql rfl rfl) ?_
   refine rd_v rfl (v_move rfl) ?_
   refine rd_j (ι := Bool) (γ := Unit) (fun q6 g6 => [(37, isv (q6))]) (fun q6 g6 => []) .nil h 5 rfl (fun q6 g6 h => ?_) (fun J7 h hJ7 => ?_)
   ·
    refine rd_t rfl rfl (t_storeC (y' := (y4.1 : GTab)) ty26 rfl rfl (fun _ _ h => h) .here rfl ?_)
    refine rd_v rfl (v_assign rfl) ?_
    refine rd_nil ?_
    refine fin_nxt ?_
    refine w_ret ?_
    refine ret_post (.cell rfl .here ty26 (.tmp rfl .nil)) .nil ?_
    obtain rfl := Option.some.inj h
    exact ⟨rfl, rfl⟩
   ·
    refine rd_condM (j := 32) h rfl (fun g8 h => ?_) (fun g8 h => ?_)
    ·
     refine rd_vt rfl rfl (dj := 32) rfl g8 (v_fi rfl GTab.f3 fd26_3 rfl (z := y4.1.types)) ?_
     refine rd_vt rfl rfl (dj := 32) rfl g8 (v_loadI ty24 rfl) ?_
     refine rd_vt rfl rfl (dj := 32) rfl g8 (v_ln (l := y4.1.types) rfl (fun _ _ h => h) sl24) ?_
     refine rd_vt rfl rfl (dj := 32) rfl g8 (v_leq rfl rfl) ?_
     refine rd_v rfl (v_pick_t rfl g8 rfl) ?_
     exact hJ7 _ () h _ (join_imp 5 rfl rfl (mod_cons (j := 37) rfl (fun _ _ h => h) mod_nil) (.cons .here .nil))
    ·
     refine rd_passV rfl rfl (dj := 32) rfl g8 ?_
     refine rd_passV rfl rfl (dj := 32) rfl g8 ?_
     refine rd_passV rfl rfl (dj := 32) rfl g8 ?_
     refine rd_passV rfl rfl (dj := 32) rfl g8 ?_
     refine rd_v rfl (v_pick_f rfl g8 rfl) ?_
     exact hJ7 _ () h _ (join_imp 5 rfl rfl (mod_cons (j := 37) rfl (fun _ _ h => h) mod_nil) (.cons .here .nil))

end Go.Proofs.YtajbipkppngccaaDoor


namespace Go.Proofs.YtajbipkppngccaaDoor
open Go.Sy
set_option maxRecDepth 4000
theorem slices_Index_Lstring_string_w : ∀ {a_s : (List Str)} {a_v : Str} {r : Int}, slices_Index_Lstring_string a_s a_v = some r → Ctr Tryd.prog 59 [isv (a_s), isv (a_v)] [] (fun R H => R = oneOf [isv (r)] ∧ H = []) := by
 intro a_s a_v r h
 unfold slices_Index_Lstring_string at h
 refine spec_intro Tryd.func59 rfl (by decide +kernel) (by rfl) fun w0 S0 hT => ?_
 refine wsr ?_
 refine oV (v_assign rfl) ?_
 refine rnf ?_
 refine w_seq ?_
 refine wsr ?_
 refine oV (v_move rfl) ?_
 refine oV (v_ln (l := a_s) rfl (fun _ _ h => h) sl22) ?_
 refine oV (v_move rfl) ?_
 refine rnf ?_
 refine w_block ?_
 refine w_lp (ι := Int) (γ := Unit) (fun q1 g1 => [(8, isv (q1))]) (fun q1 g1 => []) h () (mod_cons (j := 8) rfl (fun _ _ h => h) mod_nil) .nil (fun L2 q1 g1 Q7 h hL2 eL2 rL2 => ?_)
 refine wsr ?_
 refine oV (v_lss rfl rfl) ?_
 refine rnf ?_
 refine w_seq ?_
 refine w_condM h rfl (fun _ h => ?_) (fun _ h => ?_)
 ·
  refine wkf ?_
  refine w_seq ?_
  refine w_block ?_
  refine wsr ?_
  refine oV (v_move rfl) ?_
  refine oV (v_assign rfl) ?_
  refine rnf ?_
  refine wsr ?_
  refine oV (v_move rfl) ?_
  refine oV (v_move rfl) ?_
  refine oV (v_move rfl) ?_
  refine cal_inv h fun y5 hy5 h => ?_
  refine oV (v_ix (l := a_s) rfl (fun _ _ h => h) rfl sl22 hy5) ?_
  refine oV (v_loadI ty9 rfl) ?_
  refine oV (v_eqA eq9 rfl rfl) ?_
  refine rnf ?_
  refine w_condM h rfl (fun _ h => ?_) (fun _ h => ?_)
  ·
   refine wsr ?_
   refine oV (v_move rfl) ?_
   refine oV (v_assign rfl) ?_
   refine rnf ?_
   refine w_ret ?_
   refine ret_block ?_
   refine ret_nxt ?_
   refine rL2 _ ?_
   refine ret_block ?_
   refine ret_nxt ?_
   refine ret_post (.tmp rfl .nil) .nil ?_
   obtain rfl := Option.some.inj h
   exact ⟨rfl, rfl⟩
  ·
   refine w_skip ?_
   refine fin_block ?_
   refine fin_nxt ?_
   refine w_region ?_
   refine ck_inv h fun q6 h => ?_
   refine oV (v_add rfl rfl q6) ?_
   refine oV (v_move rfl) ?_
   refine rl_nil ?_
   exact hL2 _ () h _ (join_imp 12 rfl rfl (mod_cons (j := 8) rfl (fun _ _ h => h) mod_nil) .nil)
 ·
  refine w_exit ?_
  refine exi_nxt ?_
  refine eL2 _ _ ?_
  refine exi_block ?_
  refine fin_nxt ?_
  refine wsr ?_
  refine oV (v_assign rfl) ?_
  refine rnf ?_
  refine w_ret ?_
  refine ret_post (.tmp rfl .nil) .nil ?_
  obtain rfl := Option.some.inj h
  exact ⟨rfl, rfl⟩


theorem table_Find_w : ∀ {a_t : GTab} {a_name : Str} {r : Int}, table_Find a_t a_name = some r → Ctr Tryd.prog 34 [isv (a_t), isv (a_name)] [] (fun R H => R = oneOf [isv (r)] ∧ H = []) := by
 intro a_t a_name r h
 unfold table_Find at h
 refine spec_intro Tryd.func34 rfl (by decide +kernel) (by rfl) fun w0 S0 hT => ?_
 refine wsr ?_
 refine oT (t_boxIC (y := a_t) rfl (fun _ _ h => h) ?_)
 refine oV (v_assign rfl) ?_
 refine rnf ?_
 refine wsr ?_
 refine oV (v_fi rfl GTab.f1 fd26_1 rfl (z := a_t.names)) ?_
 refine oV (v_loadI ty22 rfl) ?_
 refine oV (v_move rfl) ?_
 refine cal_inv h fun y1 hy1 h => ?_
 refine oT (t_call (slices_Index_Lstring_string_w hy1) hT (.same rfl (.same rfl .nil)) .nil (fun R H' hR => ?_))
 obtain ⟨rfl, rfl⟩ := hR
 refine oV (v_assign rfl) ?_
 refine rnf ?_
 refine w_seq ?_
 refine wsr ?_
 refine oV (v_move rfl) ?_
 refine oV (v_lss rfl rfl) ?_
 refine oV (v_move rfl) ?_
 refine rl_j (ι := Bool) (γ := Unit) (fun q2 g2 => [(18, isv (q2))]) (fun q2 g2 => []) .nil h 6 rfl (fun q2 g2 h => ?_) (fun J3 h hJ3 => ?_)
 ·
  refine rnf ?_
  refine w_condM h rfl (fun _ h => ?_) (fun _ h => ?_)
  ·
   refine wsr ?_
   refine oV (v_assign rfl) ?_
   refine rnf ?_
   refine w_ret ?_
   refine ret_nxt ?_
   refine ret_post (.tmp rfl .nil) .nil ?_
   obtain rfl := Option.some.inj h
   exact ⟨rfl, rfl⟩
  ·
   refine wkf ?_
   refine wsr ?_
   refine oV (v_fi rfl GTab.f2 fd26_2 rfl (z := a_t.roots)) ?_
   refine oV (v_loadI ty23 rfl) ?_
   refine oV (v_move rfl) ?_
   refine cal_inv h fun y5 hy5 h => ?_
   refine oV (v_ix (l := a_t.roots) rfl (fun _ _ h => h) rfl sl23 hy5) ?_
   refine oV (v_loadI ty3 rfl) ?_
   refine oV (v_assign rfl) ?_
   refine rnf ?_
   refine w_ret ?_
   refine ret_post (.tmp rfl .nil) .nil ?_
   obtain rfl := Option.some.inj h
   exact ⟨rfl, rfl⟩
 ·
  refine rl_condM (j := 12) h rfl (fun g4 h => ?_) (fun g4 h => ?_)
  ·
   refine op_pass rfl (dj := 12) rfl g4 ?_
   refine op_pass rfl (dj := 12) rfl g4 ?_
   refine op_pass rfl (dj := 12) rfl g4 ?_
   refine op_pass rfl (dj := 12) rfl g4 ?_
   refine op_pass rfl (dj := 12) rfl g4 ?_
   refine oV (v_pick_t rfl g4 rfl) ?_
   exact hJ3 _ () h _ (join_imp 6 rfl rfl (mod_cons (j := 18) rfl (fun _ _ h => h) mod_nil) .nil)
  ·
   refine op_take rfl rfl (dj := 12) rfl g4 (OpV.t (v_move rfl) ?_)
   refine op_take rfl rfl (dj := 12) rfl g4 (OpV.t (v_fi rfl GTab.f2 fd26_2 rfl (z := a_t.roots)) ?_)
   refine op_take rfl rfl (dj := 12) rfl g4 (OpV.t (v_loadI ty23 rfl) ?_)
   refine op_take rfl rfl (dj := 12) rfl g4 (OpV.t (v_ln (l := a_t.roots) rfl (fun _ _ h => h) sl23) ?_)
   refine op_take rfl rfl (dj := 12) rfl g4 (OpV.t (v_geq rfl rfl) ?_)
   refine oV (v_pick_f rfl g4 rfl) ?_
   exact hJ3 _ () h _ (join_imp 6 rfl rfl (mod_cons (j := 18) rfl (fun _ _ h => h) mod_nil) .nil)


theorem extend_sides_types_w : ∀ {a_s : GXsd} {a_i : Int} {a_k : Int} {r : GTyp × GTyp × Bool}, extend_sides_types a_s a_i a_k = some r → Ctr Tryd.prog 60 [isv (a_s), isv (a_i), isv (a_k)] [] (fun R H => R = oneOf [isv (r.1), isv (r.2.1), isv (r.2.2)] ∧ H = []) := by
 intro a_s a_i a_k r h
 unfold extend_sides_types at h
 refine spec_intro Tryd.func60 rfl (by decide +kernel) (by rfl) fun w0 S0 hT => ?_
 refine wsr ?_
 refine oT (t_boxIC (y := a_s) rfl (fun _ _ h => h) ?_)
 refine oT (t_alloc _ ze58 fun b1 => ?_)
 refine oT (t_alloc _ ze58 fun b2 => ?_)
 refine oV (v_assign rfl) ?_
 refine rnf ?_
 refine w_seq ?_
 refine wsr ?_
 refine oV (v_move rfl) ?_
 refine oV (v_lss rfl rfl) ?_
 refine oV (v_move rfl) ?_
 refine rl_j (ι := Bool) (γ := Unit) (fun q3 g3 => [(18, isv (q3))]) (fun q3 g3 => []) .nil h 7 rfl (fun q3 g3 h => ?_) (fun J4 h hJ4 => ?_)
 ·
  refine oV (v_move rfl) ?_
  refine rl_j (ι := Bool) (γ := Unit) (fun q6 g6 => [(22, isv (q6))]) (fun q6 g6 => []) .nil h 3 rfl (fun q6 g6 h => ?_) (fun J7 h hJ7 => ?_)
  ·
   refine oV (v_move rfl) ?_
   refine rl_j (ι := Bool) (γ := Unit) (fun q9 g9 => [(30, isv (q9))]) (fun q9 g9 => []) .nil h 7 rfl (fun q9 g9 h => ?_) (fun J10 h hJ10 => ?_)
   ·
    refine rnf ?_
    refine w_condM h rfl (fun _ h => ?_) (fun _ h => ?_)
    ·
     refine wsr ?_
     refine oV (v_build (z := (GTyp.mk (0 : Int) ([] : (List Tag)) (GCon.mk false false false false (0 : Int) (0 : Int)) ([] : (List GItem)) ([] : (List GFld)) (0 : Int) false (0 : Int))) rfl bu58 ze58 .nil) ?_
     refine oV (v_build (z := (GTyp.mk (0 : Int) ([] : (List Tag)) (GCon.mk false false false false (0 : Int) (0 : Int)) ([] : (List GItem)) ([] : (List GFld)) (0 : Int) false (0 : Int))) rfl bu58 ze58 .nil) ?_
     refine oT (t_storeC (y' := ((GTyp.mk (0 : Int) ([] : (List Tag)) (GCon.mk false false false false (0 : Int) (0 : Int)) ([] : (List GItem)) ([] : (List GFld)) (0 : Int) false (0 : Int)) : GTyp)) ty58 rfl rfl (fun _ _ h => h) (.there .here) rfl ?_)
     refine oT (t_storeC (y' := ((GTyp.mk (0 : Int) ([] : (List Tag)) (GCon.mk false false false false (0 : Int) (0 : Int)) ([] : (List GItem)) ([] : (List GFld)) (0 : Int) false (0 : Int)) : GTyp)) ty58 rfl rfl (fun _ _ h => h) (.there .here) rfl ?_)
     refine oV (v_assign rfl) ?_
     refine rnf ?_
     refine w_ret ?_
     refine ret_nxt ?_
     refine ret_post (.cell rfl (.there .here) ty58 (.cell rfl .here ty58 (.tmp rfl .nil))) .nil ?_
     obtain rfl := Option.some.inj h
     exact ⟨rfl, rfl⟩
    ·
     refine wkf ?_
     refine w_seq ?_
     refine w_regionD (.v 0 (.v 1 (.v 2 (.v 3 (.v 4 (.v 5 (.v 6 (.v 7 (.v 8 (.v 9 (.v 10 (.v 11 (.t 12 (.t 13 (.v 14 .nil))))))))))))))) moOrd (by kernel_rfl) ?_
     refine rd_v rfl (v_fi rfl GXsd.f0 fd82_0 rfl (z := a_s.a)) ?_
     refine rd_v rfl (v_fi rfl GTab.f3 fd26_3 rfl (z := a_s.a.types)) ?_
     refine rd_v rfl (v_loadI ty24 rfl) ?_
     refine rd_v rfl (v_move rfl) ?_
     refine cal_inv h fun y12 hy12 h => ?_
     refine rd_v rfl (v_ix (l := a_s.a.types) rfl (fun _ _ h => h) rfl sl24 hy12) ?_
     refine rd_v rfl (v_loadI ty58 rfl) ?_
     refine rd_v rfl (v_fi rfl GXsd.f1 fd82_1 rfl (z := a_s.b)) ?_
     refine rd_v rfl (v_fi rfl GTab.f3 fd26_3 rfl (z := a_s.b.types)) ?_
     refine rd_v rfl (v_loadI ty24 rfl) ?_
     refine rd_v rfl (v_move rfl) ?_
     refine cal_inv h fun y13 hy13 h => ?_
     refine rd_v rfl (v_ix (l := a_s.b.types) rfl (fun _ _ h => h) rfl sl24 hy13) ?_
     refine rd_v rfl (v_loadI ty58 rfl) ?_
     refine rd_t rfl rfl (t_storeC (y' := (y12 : GTyp)) ty58 rfl rfl (fun _ _ h => h) (.there .here) rfl ?_)
     refine rd_t rfl rfl (t_storeC (y' := (y13 : GTyp)) ty58 rfl rfl (fun _ _ h => h) (.there .here) rfl ?_)
     refine rd_v rfl (v_assign rfl) ?_
     refine rd_nil ?_
     refine fin_nxt ?_
     refine w_ret ?_
     refine ret_post (.cell rfl (.there .here) ty58 (.cell rfl .here ty58 (.tmp rfl .nil))) .nil ?_
     obtain rfl := Option.some.inj h
     exact ⟨rfl, rfl⟩
   ·
    refine rl_condM (j := 23) h rfl (fun g11 h => ?_) (fun g11 h => ?_)
    ·
     refine op_pass rfl (dj := 23) rfl g11 ?_
     refine op_pass rfl (dj := 23) rfl g11 ?_
     refine op_pass rfl (dj := 23) rfl g11 ?_
     refine op_pass rfl (dj := 23) rfl g11 ?_
     refine op_pass rfl (dj := 23) rfl g11 ?_
     refine op_pass rfl (dj := 23) rfl g11 ?_
     refine oV (v_pick_t rfl g11 rfl) ?_
     exact hJ10 _ () h _ (join_imp 7 rfl rfl (mod_cons (j := 30) rfl (fun _ _ h => h) mod_nil) (.cons .here (.cons .here .nil)))
    ·
     refine op_take rfl rfl (dj := 23) rfl g11 (OpV.t (v_move rfl) ?_)
     refine op_take rfl rfl (dj := 23) rfl g11 (OpV.t (v_fi rfl GXsd.f1 fd82_1 rfl (z := a_s.b)) ?_)
     refine op_take rfl rfl (dj := 23) rfl g11 (OpV.t (v_fi rfl GTab.f3 fd26_3 rfl (z := a_s.b.types)) ?_)
     refine op_take rfl rfl (dj := 23) rfl g11 (OpV.t (v_loadI ty24 rfl) ?_)
     refine op_take rfl rfl (dj := 23) rfl g11 (OpV.t (v_ln (l := a_s.b.types) rfl (fun _ _ h => h) sl24) ?_)
     refine op_take rfl rfl (dj := 23) rfl g11 (OpV.t (v_geq rfl rfl) ?_)
     refine oV (v_pick_f rfl g11 rfl) ?_
     exact hJ10 _ () h _ (join_imp 7 rfl rfl (mod_cons (j := 30) rfl (fun _ _ h => h) mod_nil) (.cons .here (.cons .here .nil)))
  ·
   refine rl_condM (j := 19) h rfl (fun g8 h => ?_) (fun g8 h => ?_)
   ·
    refine op_pass rfl (dj := 19) rfl g8 ?_
    refine op_pass rfl (dj := 19) rfl g8 ?_
    refine oV (v_pick_t rfl g8 rfl) ?_
    exact hJ7 _ () h _ (join_imp 3 rfl rfl (mod_cons (j := 22) rfl (fun _ _ h => h) mod_nil) (.cons .here (.cons .here .nil)))
   ·
    refine op_take rfl rfl (dj := 19) rfl g8 (OpV.t (v_move rfl) ?_)
    refine op_take rfl rfl (dj := 19) rfl g8 (OpV.t (v_lss rfl rfl) ?_)
    refine oV (v_pick_f rfl g8 rfl) ?_
    exact hJ7 _ () h _ (join_imp 3 rfl rfl (mod_cons (j := 22) rfl (fun _ _ h => h) mod_nil) (.cons .here (.cons .here .nil)))
 ·
  refine rl_condM (j := 11) h rfl (fun g5 h => ?_) (fun g5 h => ?_)
  ·
   refine op_pass rfl (dj := 11) rfl g5 ?_
   refine op_pass rfl (dj := 11) rfl g5 ?_
   refine op_pass rfl (dj := 11) rfl g5 ?_
   refine op_pass rfl (dj := 11) rfl g5 ?_
   refine op_pass rfl (dj := 11) rfl g5 ?_
   refine op_pass rfl (dj := 11) rfl g5 ?_
   refine oV (v_pick_t rfl g5 rfl) ?_
   exact hJ4 _ () h _ (join_imp 7 rfl rfl (mod_cons (j := 18) rfl (fun _ _ h => h) mod_nil) (.cons .here (.cons .here .nil)))
  ·
   refine op_take rfl rfl (dj := 11) rfl g5 (OpV.t (v_move rfl) ?_)
   refine op_take rfl rfl (dj := 11) rfl g5 (OpV.t (v_fi rfl GXsd.f0 fd82_0 rfl (z := a_s.a)) ?_)
   refine op_take rfl rfl (dj := 11) rfl g5 (OpV.t (v_fi rfl GTab.f3 fd26_3 rfl (z := a_s.a.types)) ?_)
   refine op_take rfl rfl (dj := 11) rfl g5 (OpV.t (v_loadI ty24 rfl) ?_)
   refine op_take rfl rfl (dj := 11) rfl g5 (OpV.t (v_ln (l := a_s.a.types) rfl (fun _ _ h => h) sl24) ?_)
   refine op_take rfl rfl (dj := 11) rfl g5 (OpV.t (v_geq rfl rfl) ?_)
   refine oV (v_pick_f rfl g5 rfl) ?_
   exact hJ4 _ () h _ (join_imp 7 rfl rfl (mod_cons (j := 18) rfl (fun _ _ h => h) mod_nil) (.cons .here (.cons .here .nil)))


theorem slices_Equal_Lapi_Tag_api_Tag_w : ∀ {a_s1 : (List Tag)} {a_s2 : (List Tag)} {r : Bool}, slices_Equal_Lapi_Tag_api_Tag a_s1 a_s2 = some r → Ctr Tryd.prog 61 [isv (a_s1), isv (a_s2)] [] (fun R H => R = oneOf [isv (r)] ∧ H = []) := by
 intro a_s1 a_s2 r h
 unfold slices_Equal_Lapi_Tag_api_Tag at h
 refine spec_intro Tryd.func61 rfl (by decide +kernel) (by rfl) fun w0 S0 hT => ?_
 refine wsr ?_
 refine oV (v_assign rfl) ?_
 refine rnf ?_
 refine w_seq ?_
 refine wsr ?_
 refine oV (v_move rfl) ?_
 refine oV (v_ln (l := a_s1) rfl (fun _ _ h => h) sl52) ?_
 refine oV (v_move rfl) ?_
 refine oV (v_ln (l := a_s2) rfl (fun _ _ h => h) sl52) ?_
 refine oV (v_neq rfl rfl) ?_
 refine rnf ?_
 refine w_condM h rfl (fun _ h => ?_) (fun _ h => ?_)
 ·
  refine wsr ?_
  refine oV (v_assign rfl) ?_
  refine rnf ?_
  refine w_ret ?_
  refine ret_nxt ?_
  refine ret_post (.tmp rfl .nil) .nil ?_
  obtain rfl := Option.some.inj h
  exact ⟨rfl, rfl⟩
 ·
  refine wkf ?_
  refine w_seq ?_
  refine wsr ?_
  refine oV (v_move rfl) ?_
  refine oV (v_ln (l := a_s1) rfl (fun _ _ h => h) sl52) ?_
  refine oV (v_move rfl) ?_
  refine rnf ?_
  refine w_block ?_
  refine w_lp (ι := Int) (γ := Unit) (fun q1 g1 => [(13, isv (q1))]) (fun q1 g1 => []) h () (mod_cons (j := 13) rfl (fun _ _ h => h) mod_nil) .nil (fun L2 q1 g1 Q9 h hL2 eL2 rL2 => ?_)
  refine wsr ?_
  refine oV (v_lss rfl rfl) ?_
  refine rnf ?_
  refine w_seq ?_
  refine w_condM h rfl (fun _ h => ?_) (fun _ h => ?_)
  ·
   refine wkf ?_
   refine w_seq ?_
   refine w_block ?_
   refine wsr ?_
   refine oV (v_move rfl) ?_
   refine oV (v_assign rfl) ?_
   refine rnf ?_
   refine w_seq ?_
   refine w_regionD (.v 0 (.v 1 (.v 2 (.v 3 (.v 4 (.v 5 (.v 6 (.v 7 (.v 8 .nil))))))))) moOrd (by kernel_rfl) ?_
   refine rd_v rfl (v_move rfl) ?_
   refine rd_v rfl (v_move rfl) ?_
   refine cal_inv h fun y6 hy6 h => ?_
   refine rd_v rfl (v_ix (l := a_s1) rfl (fun _ _ h => h) rfl sl52 hy6) ?_
   refine rd_v rfl (v_loadI ty61 rfl) ?_
   refine rd_v rfl (v_move rfl) ?_
   refine rd_v rfl (v_move rfl) ?_
   refine cal_inv h fun y7 hy7 h => ?_
   refine rd_v rfl (v_ix (l := a_s2) rfl (fun _ _ h => h) rfl sl52 hy7) ?_
   refine rd_v rfl (v_loadI ty61 rfl) ?_
   refine rd_v rfl (v_neA eq61 rfl rfl) ?_
   refine rd_nil ?_
   refine fin_nxt ?_
   refine w_condM h rfl (fun _ h => ?_) (fun _ h => ?_)
   ·
    refine wsr ?_
    refine oV (v_assign rfl) ?_
    refine rnf ?_
    refine w_ret ?_
    refine ret_block ?_
    refine ret_nxt ?_
    refine rL2 _ ?_
    refine ret_block ?_
    refine ret_nxt ?_
    refine ret_post (.tmp rfl .nil) .nil ?_
    obtain rfl := Option.some.inj h
    exact ⟨rfl, rfl⟩
   ·
    refine w_skip ?_
    refine fin_block ?_
    refine fin_nxt ?_
    refine w_region ?_
    refine ck_inv h fun q8 h => ?_
    refine oV (v_add rfl rfl q8) ?_
    refine oV (v_move rfl) ?_
    refine rl_nil ?_
    exact hL2 _ () h _ (join_imp 15 rfl rfl (mod_cons (j := 13) rfl (fun _ _ h => h) mod_nil) .nil)
  ·
   refine w_exit ?_
   refine exi_nxt ?_
   refine eL2 _ _ ?_
   refine exi_block ?_
   refine fin_nxt ?_
   refine wsr ?_
   refine oV (v_assign rfl) ?_
   refine rnf ?_
   refine w_ret ?_
   refine ret_post (.tmp rfl .nil) .nil ?_
   obtain rfl := Option.some.inj h
   exact ⟨rfl, rfl⟩


theorem slices_Equal_Lapi_Item_api_Item_w : ∀ {a_s1 : (List GItem)} {a_s2 : (List GItem)} {r : Bool}, slices_Equal_Lapi_Item_api_Item a_s1 a_s2 = some r → Ctr Tryd.prog 88 [isv (a_s1), isv (a_s2)] [] (fun R H => R = oneOf [isv (r)] ∧ H = []) := by
 intro a_s1 a_s2 r h
 unfold slices_Equal_Lapi_Item_api_Item at h
 refine spec_intro Tryd.func88 rfl (by decide +kernel) (by rfl) fun w0 S0 hT => ?_
 refine wsr ?_
 refine oV (v_assign rfl) ?_
 refine rnf ?_
 refine w_seq ?_
 refine wsr ?_
 refine oV (v_move rfl) ?_
 refine oV (v_ln (l := a_s1) rfl (fun _ _ h => h) sl55) ?_
 refine oV (v_move rfl) ?_
 refine oV (v_ln (l := a_s2) rfl (fun _ _ h => h) sl55) ?_
 refine oV (v_neq rfl rfl) ?_
 refine rnf ?_
 refine w_condM h rfl (fun _ h => ?_) (fun _ h => ?_)
 ·
  refine wsr ?_
  refine oV (v_assign rfl) ?_
  refine rnf ?_
  refine w_ret ?_
  refine ret_nxt ?_
  refine ret_post (.tmp rfl .nil) .nil ?_
  obtain rfl := Option.some.inj h
  exact ⟨rfl, rfl⟩
 ·
  refine wkf ?_
  refine w_seq ?_
  refine wsr ?_
  refine oV (v_move rfl) ?_
  refine oV (v_ln (l := a_s1) rfl (fun _ _ h => h) sl55) ?_
  refine oV (v_move rfl) ?_
  refine rnf ?_
  refine w_block ?_
  refine w_lp (ι := Int) (γ := Unit) (fun q1 g1 => [(13, isv (q1))]) (fun q1 g1 => []) h () (mod_cons (j := 13) rfl (fun _ _ h => h) mod_nil) .nil (fun L2 q1 g1 Q9 h hL2 eL2 rL2 => ?_)
  refine wsr ?_
  refine oV (v_lss rfl rfl) ?_
  refine rnf ?_
  refine w_seq ?_
  refine w_condM h rfl (fun _ h => ?_) (fun _ h => ?_)
  ·
   refine wkf ?_
   refine w_seq ?_
   refine w_block ?_
   refine wsr ?_
   refine oV (v_move rfl) ?_
   refine oV (v_assign rfl) ?_
   refine rnf ?_
   refine w_seq ?_
   refine w_regionD (.v 0 (.v 1 (.v 2 (.v 3 (.v 4 (.v 5 (.v 6 (.v 7 (.v 8 .nil))))))))) moOrd (by kernel_rfl) ?_
   refine rd_v rfl (v_move rfl) ?_
   refine rd_v rfl (v_move rfl) ?_
   refine cal_inv h fun y6 hy6 h => ?_
   refine rd_v rfl (v_ix (l := a_s1) rfl (fun _ _ h => h) rfl sl55 hy6) ?_
   refine rd_v rfl (v_loadI ty71 rfl) ?_
   refine rd_v rfl (v_move rfl) ?_
   refine rd_v rfl (v_move rfl) ?_
   refine cal_inv h fun y7 hy7 h => ?_
   refine rd_v rfl (v_ix (l := a_s2) rfl (fun _ _ h => h) rfl sl55 hy7) ?_
   refine rd_v rfl (v_loadI ty71 rfl) ?_
   refine rd_v rfl (v_neA eq71 rfl rfl) ?_
   refine rd_nil ?_
   refine fin_nxt ?_
   refine w_condM h rfl (fun _ h => ?_) (fun _ h => ?_)
   ·
    refine wsr ?_
    refine oV (v_assign rfl) ?_
    refine rnf ?_
    refine w_ret ?_
    refine ret_block ?_
    refine ret_nxt ?_
    refine rL2 _ ?_
    refine ret_block ?_
    refine ret_nxt ?_
    refine ret_post (.tmp rfl .nil) .nil ?_
    obtain rfl := Option.some.inj h
    exact ⟨rfl, rfl⟩
   ·
    refine w_skip ?_
    refine fin_block ?_
    refine fin_nxt ?_
    refine w_region ?_
    refine ck_inv h fun q8 h => ?_
    refine oV (v_add rfl rfl q8) ?_
    refine oV (v_move rfl) ?_
    refine rl_nil ?_
    exact hL2 _ () h _ (join_imp 15 rfl rfl (mod_cons (j := 13) rfl (fun _ _ h => h) mod_nil) .nil)
  ·
   refine w_exit ?_
   refine exi_nxt ?_
   refine eL2 _ _ ?_
   refine exi_block ?_
   refine fin_nxt ?_
   refine wsr ?_
   refine oV (v_assign rfl) ?_
   refine rnf ?_
   refine w_ret ?_
   refine ret_post (.tmp rfl .nil) .nil ?_
   obtain rfl := Option.some.inj h
   exact ⟨rfl, rfl⟩


theorem extend_items_w : ∀ {a_x : GTyp} {a_y : GTyp} {r : Bool}, extend_items a_x a_y = some r → Ctr Tryd.prog 62 [isv (a_x), isv (a_y)] [] (fun R H => R = oneOf [isv (r)] ∧ H = []) := by
 intro a_x a_y r h
 unfold extend_items at h
 refine spec_intro Tryd.func62 rfl (by decide +kernel) (by rfl) fun w0 S0 hT => ?_
 refine wsr ?_
 refine oT (t_boxIC (y := a_x) rfl (fun _ _ h => h) ?_)
 refine oT (t_boxIC (y := a_y) rfl (fun _ _ h => h) ?_)
 refine oV (v_assign rfl) ?_
 refine rnf ?_
 refine wsr ?_
 refine oV (v_fi rfl GTyp.f3 fd58_3 rfl (z := a_x.items)) ?_
 refine oV (v_loadI ty55 rfl) ?_
 refine oV (v_ln (l := a_x.items) rfl (fun _ _ h => h) sl55) ?_
 refine oV (v_assign rfl) ?_
 refine rnf ?_
 refine w_seq ?_
 refine w_regionD (.v 0 (.v 1 (.v 2 (.v 3 (.v 4 (.v 5 (.v 6 (.v 7 (.v 8 (.v 9 (.v 10 (.v 11 (.v 12 (.v 13 (.v 14 (.v 15 (.v 16 (.v 17 (.v 18 (.t 19 (.v 20 (.v 21 (.v 22 (.v 23 (.v 24 (.v 25 (.v 26 (.v 27 (.v 28 (.v 29 (.v 30 (.v 31 (.v 32 .nil))))))))))))))))))))))))))))))))) moOrd (by kernel_rfl) ?_
 refine rd_v rfl (v_fi rfl GTyp.f5 fd58_5 rfl (z := a_x.root)) ?_
 refine rd_v rfl (v_loadI ty3 rfl) ?_
 refine rd_v rfl (v_fi rfl GTyp.f5 fd58_5 rfl (z := a_y.root)) ?_
 refine rd_v rfl (v_loadI ty3 rfl) ?_
 refine rd_v rfl (v_eql rfl rfl) ?_
 refine rd_v rfl (v_move rfl) ?_
 refine rd_j (ι := Bool) (γ := Unit) (fun q1 g1 => [(20, isv (q1))]) (fun q1 g1 => []) .nil h 6 rfl (fun q1 g1 h => ?_) (fun J2 h hJ2 => ?_)
 ·
  refine rd_v rfl (v_move rfl) ?_
  refine rd_j (ι := Bool) (γ := Unit) (fun q4 g4 => [(29, isv (q4))]) (fun q4 g4 => []) .nil h 8 rfl (fun q4 g4 h => ?_) (fun J5 h hJ5 => ?_)
  ·
   refine rd_v rfl (v_move rfl) ?_
   refine rd_j (ι := Bool) (γ := Unit) (fun q9 g9 => [(40, isv (q9))]) (fun q9 g9 => []) .nil h 10 rfl (fun q9 g9 h => ?_) (fun J10 h hJ10 => ?_)
   ·
    refine rd_v rfl (v_assign rfl) ?_
    refine rd_nil ?_
    refine fin_nxt ?_
    refine w_ret ?_
    refine ret_post (.tmp rfl .nil) .nil ?_
    obtain rfl := Option.some.inj h
    exact ⟨rfl, rfl⟩
   ·
    refine rd_condM (j := 30) h rfl (fun g11 h => ?_) (fun g11 h => ?_)
    ·
     refine rd_vt rfl rfl (dj := 30) rfl g11 (v_fi rfl GTyp.f6 fd58_6 rfl (z := a_x.more)) ?_
     refine rd_vt rfl rfl (dj := 30) rfl g11 (v_loadI ty4 rfl) ?_
     refine rd_vt rfl rfl (dj := 30) rfl g11 (v_move rfl) ?_
     refine rd_j (ι := Bool) (γ := Unit) (fun q12 g12 => [(39, isv (q12))]) (fun q12 g12 => []) .nil h 6 rfl (fun q12 g12 h => ?_) (fun J13 h hJ13 => ?_)
     ·
      refine rd_v rfl (v_pick_t rfl g11 rfl) ?_
      exact hJ10 _ () h _ (join_imp 5 rfl rfl (mod_cons (j := 40) rfl (fun _ _ h => h) mod_nil) .nil)
     ·
      refine rd_condM (j := 33) h rfl (fun g14 h => ?_) (fun g14 h => ?_)
      ·
       refine rd_passV rfl rfl (dj := 33) rfl g14 ?_
       refine rd_passV rfl rfl (dj := 33) rfl g14 ?_
       refine rd_passV rfl rfl (dj := 33) rfl g14 ?_
       refine rd_passV rfl rfl (dj := 33) rfl g14 ?_
       refine rd_passV rfl rfl (dj := 33) rfl g14 ?_
       refine rd_vt rfl rfl (dj := 30) rfl g11 (v_pick_t rfl g14 rfl) ?_
       exact hJ13 _ () h _ (join_imp 6 rfl rfl (mod_cons (j := 39) rfl (fun _ _ h => h) mod_nil) .nil)
      ·
       refine rd_vt rfl rfl (dj := 33) rfl g14 (v_fi rfl GTyp.f3 fd58_3 rfl (z := a_y.items)) ?_
       refine rd_vt rfl rfl (dj := 33) rfl g14 (v_loadI ty55 rfl) ?_
       refine rd_vt rfl rfl (dj := 33) rfl g14 (v_ln (l := a_y.items) rfl (fun _ _ h => h) sl55) ?_
       refine rd_vt rfl rfl (dj := 33) rfl g14 (v_move rfl) ?_
       refine rd_vt rfl rfl (dj := 33) rfl g14 (v_eql rfl rfl) ?_
       refine rd_vt rfl rfl (dj := 30) rfl g11 (v_pick_f rfl g14 rfl) ?_
       exact hJ13 _ () h _ (join_imp 6 rfl rfl (mod_cons (j := 39) rfl (fun _ _ h => h) mod_nil) .nil)
    ·
     refine rd_passV rfl rfl (dj := 30) rfl g11 ?_
     refine rd_passV rfl rfl (dj := 30) rfl g11 ?_
     refine rd_passV rfl rfl (dj := 30) rfl g11 ?_
     refine rd_passUV rfl rfl (dj := 33) rfl ?_
     refine rd_passUV rfl rfl (dj := 33) rfl ?_
     refine rd_passUV rfl rfl (dj := 33) rfl ?_
     refine rd_passUV rfl rfl (dj := 33) rfl ?_
     refine rd_passUV rfl rfl (dj := 33) rfl ?_
     refine rd_passV rfl rfl (dj := 30) rfl g11 ?_
     refine rd_v rfl (v_pick_f rfl g11 rfl) ?_
     exact hJ10 _ () h _ (join_imp 10 rfl rfl (mod_cons (j := 40) rfl (fun _ _ h => h) mod_nil) .nil)
  ·
   refine rd_condM (j := 21) h rfl (fun g6 h => ?_) (fun g6 h => ?_)
   ·
    refine rd_vt rfl rfl (dj := 21) rfl g6 (v_fi rfl GTyp.f3 fd58_3 rfl (z := a_y.items)) ?_
    refine rd_vt rfl rfl (dj := 21) rfl g6 (v_loadI ty55 rfl) ?_
    refine rd_vt rfl rfl (dj := 21) rfl g6 (v_move rfl) ?_
    refine asd_inv h fun q7 h => ?_
    refine rd_vt rfl rfl (dj := 21) rfl g6 (v_sl (l := a_y.items) rfl (fun _ _ h => h) sl55 (.inl ⟨rfl, rfl⟩) (.inr ⟨_, rfl, rfl⟩) q7.1 q7.2.1 q7.2.2) ?_
    refine rd_vt rfl rfl (dj := 21) rfl g6 (v_fi rfl GTyp.f3 fd58_3 rfl (z := a_x.items)) ?_
    refine rd_vt rfl rfl (dj := 21) rfl g6 (v_loadI ty55 rfl) ?_
    refine cal_inv h fun y8 hy8 h => ?_
    refine rd_tt rfl rfl rfl (dj := 21) rfl g6 (t_call (slices_Equal_Lapi_Item_api_Item_w hy8) hT (.same rfl (.same rfl .nil)) .nil (fun R H' hR => ?_))
    obtain ⟨rfl, rfl⟩ := hR
    refine rd_v rfl (v_pick_t rfl g6 rfl) ?_
    exact hJ5 _ () h _ (join_imp 8 rfl rfl (mod_cons (j := 29) rfl (fun _ _ h => h) mod_nil) .nil)
   ·
    refine rd_passV rfl rfl (dj := 21) rfl g6 ?_
    refine rd_passV rfl rfl (dj := 21) rfl g6 ?_
    refine rd_passV rfl rfl (dj := 21) rfl g6 ?_
    refine rd_passV rfl rfl (dj := 21) rfl g6 ?_
    refine rd_passV rfl rfl (dj := 21) rfl g6 ?_
    refine rd_passV rfl rfl (dj := 21) rfl g6 ?_
    refine rd_passT rfl rfl (dj := 21) rfl g6 ?_
    refine rd_v rfl (v_pick_f rfl g6 rfl) ?_
    exact hJ5 _ () h _ (join_imp 8 rfl rfl (mod_cons (j := 29) rfl (fun _ _ h => h) mod_nil) .nil)
 ·
  refine rd_condM (j := 14) h rfl (fun g3 h => ?_) (fun g3 h => ?_)
  ·
   refine rd_vt rfl rfl (dj := 14) rfl g3 (v_fi rfl GTyp.f3 fd58_3 rfl (z := a_y.items)) ?_
   refine rd_vt rfl rfl (dj := 14) rfl g3 (v_loadI ty55 rfl) ?_
   refine rd_vt rfl rfl (dj := 14) rfl g3 (v_ln (l := a_y.items) rfl (fun _ _ h => h) sl55) ?_
   refine rd_vt rfl rfl (dj := 14) rfl g3 (v_move rfl) ?_
   refine rd_vt rfl rfl (dj := 14) rfl g3 (v_geq rfl rfl) ?_
   refine rd_v rfl (v_pick_t rfl g3 rfl) ?_
   exact hJ2 _ () h _ (join_imp 6 rfl rfl (mod_cons (j := 20) rfl (fun _ _ h => h) mod_nil) .nil)
  ·
   refine rd_passV rfl rfl (dj := 14) rfl g3 ?_
   refine rd_passV rfl rfl (dj := 14) rfl g3 ?_
   refine rd_passV rfl rfl (dj := 14) rfl g3 ?_
   refine rd_passV rfl rfl (dj := 14) rfl g3 ?_
   refine rd_passV rfl rfl (dj := 14) rfl g3 ?_
   refine rd_v rfl (v_pick_f rfl g3 rfl) ?_
   exact hJ2 _ () h _ (join_imp 6 rfl rfl (mod_cons (j := 20) rfl (fun _ _ h => h) mod_nil) .nil)


theorem bytes_Equal_w : ∀ {a_a : (List UInt8)} {a_b : (List UInt8)} {r : Bool}, bytes_Equal a_a a_b = some r → Ctr Tryd.prog 127 [isv (a_a), isv (a_b)] [] (fun R H => R = oneOf [isv (r)] ∧ H = []) := by
 intro a_a a_b r h
 unfold bytes_Equal at h
 refine spec_intro Tryd.func127 rfl (by decide +kernel) (by rfl) fun w0 S0 hT => ?_
 refine wsr ?_
 refine oV (v_assign rfl) ?_
 refine rnf ?_
 refine wsr ?_
 refine oV (v_move rfl) ?_
 refine oV (v_bs (l := a_a) Tryd.underlying63 Tryd.underlying5 Tryd.underlying9 rfl (fun _ _ h => h)) ?_
 refine oV (v_move rfl) ?_
 refine oV (v_bs (l := a_b) Tryd.underlying63 Tryd.underlying5 Tryd.underlying9 rfl (fun _ _ h => h)) ?_
 refine oV (v_eqA eq9 rfl rfl) ?_
 refine oV (v_assign rfl) ?_
 refine rnf ?_
 refine w_ret ?_
 refine ret_post (.tmp rfl .nil) .nil ?_
 obtain rfl := Option.some.inj h
 exact ⟨rfl, rfl⟩


theorem value_sameRaw_w : ∀ {a_a : Raw} {a_b : Raw} {r : Bool}, value_sameRaw a_a a_b = some r → Ctr Tryd.prog 130 [isv (a_a), isv (a_b)] [] (fun R H => R = oneOf [isv (r)] ∧ H = []) := by
 intro a_a a_b r h
 unfold value_sameRaw at h
 refine spec_intro Tryd.func130 rfl (by decide +kernel) (by rfl) fun w0 S0 hT => ?_
 refine wsr ?_
 refine oT (t_boxIC (y := a_a) rfl (fun _ _ h => h) ?_)
 refine oT (t_boxIC (y := a_b) rfl (fun _ _ h => h) ?_)
 refine oV (v_assign rfl) ?_
 refine rnf ?_
 refine wsr ?_
 refine oV (v_fi rfl Raw.f0 fd149_0 rfl (z := a_a.n)) ?_
 refine oV (v_loadI ty3 rfl) ?_
 refine oV (v_fi rfl Raw.f0 fd149_0 rfl (z := a_b.n)) ?_
 refine oV (v_loadI ty3 rfl) ?_
 refine oV (v_eql rfl rfl) ?_
 refine oV (v_move rfl) ?_
 refine rl_j (ι := Bool) (γ := Unit) (fun q1 g1 => [(16, isv (q1))]) (fun q1 g1 => []) .nil h 6 rfl (fun q1 g1 h => ?_) (fun J2 h hJ2 => ?_)
 ·
  refine oV (v_assign rfl) ?_
  refine rnf ?_
  refine w_ret ?_
  refine ret_post (.tmp rfl .nil) .nil ?_
  obtain rfl := Option.some.inj h
  exact ⟨rfl, rfl⟩
 ·
  refine rl_condM (j := 10) h rfl (fun g3 h => ?_) (fun g3 h => ?_)
  ·
   refine op_take rfl rfl (dj := 10) rfl g3 (OpV.t (v_fi rfl Raw.f1 fd149_1 rfl (z := a_a.b)) ?_)
   refine op_take rfl rfl (dj := 10) rfl g3 (OpV.t (v_loadI ty63 rfl) ?_)
   refine op_take rfl rfl (dj := 10) rfl g3 (OpV.t (v_fi rfl Raw.f1 fd149_1 rfl (z := a_b.b)) ?_)
   refine op_take rfl rfl (dj := 10) rfl g3 (OpV.t (v_loadI ty63 rfl) ?_)
   refine cal_inv h fun y4 hy4 h => ?_
   refine op_take rfl rfl (dj := 10) rfl g3 (t_call (bytes_Equal_w hy4) hT (.same rfl (.same rfl .nil)) .nil (fun R H' hR => ?_))
   obtain ⟨rfl, rfl⟩ := hR
   refine oV (v_pick_t rfl g3 rfl) ?_
   exact hJ2 _ () h _ (join_imp 6 rfl rfl (mod_cons (j := 16) rfl (fun _ _ h => h) mod_nil) .nil)
  ·
   refine op_pass rfl (dj := 10) rfl g3 ?_
   refine op_pass rfl (dj := 10) rfl g3 ?_
   refine op_pass rfl (dj := 10) rfl g3 ?_
   refine op_pass rfl (dj := 10) rfl g3 ?_
   refine op_pass rfl (dj := 10) rfl g3 ?_
   refine oV (v_pick_f rfl g3 rfl) ?_
   exact hJ2 _ () h _ (join_imp 6 rfl rfl (mod_cons (j := 16) rfl (fun _ _ h => h) mod_nil) .nil)


theorem slices_EqualFunc_Lapi_Raw_Lapi_Raw_api_Raw_api_Raw_w : ∀ {a_s1 : (List Raw)} {a_s2 : (List Raw)} {r : Bool}, slices_EqualFunc_Lapi_Raw_Lapi_Raw_api_Raw_api_Raw a_s1 a_s2 = some r → Ctr Tryd.prog 129 [isv (a_s1), isv (a_s2), clov 130 []] [] (fun R H => R = oneOf [isv (r)] ∧ H = []) := by
 intro a_s1 a_s2 r h
 unfold slices_EqualFunc_Lapi_Raw_Lapi_Raw_api_Raw_api_Raw at h
 refine spec_intro Tryd.func129 rfl (by decide +kernel) (by rfl) fun w0 S0 hT => ?_
 refine wsr ?_
 refine oV (v_assign rfl) ?_
 refine rnf ?_
 refine w_seq ?_
 refine wsr ?_
 refine oV (v_move rfl) ?_
 refine oV (v_ln (l := a_s1) rfl (fun _ _ h => h) sl65) ?_
 refine oV (v_move rfl) ?_
 refine oV (v_ln (l := a_s2) rfl (fun _ _ h => h) sl65) ?_
 refine oV (v_neq rfl rfl) ?_
 refine rnf ?_
 refine w_condM h rfl (fun _ h => ?_) (fun _ h => ?_)
 ·
  refine wsr ?_
  refine oV (v_assign rfl) ?_
  refine rnf ?_
  refine w_ret ?_
  refine ret_nxt ?_
  refine ret_post (.tmp rfl .nil) .nil ?_
  obtain rfl := Option.some.inj h
  exact ⟨rfl, rfl⟩
 ·
  refine wkf ?_
  refine w_seq ?_
  refine wsr ?_
  refine oV (v_move rfl) ?_
  refine oV (v_ln (l := a_s1) rfl (fun _ _ h => h) sl65) ?_
  refine oV (v_move rfl) ?_
  refine rnf ?_
  refine w_block ?_
  refine w_lp (ι := Int) (γ := Unit) (fun q1 g1 => [(17, isv (q1))]) (fun q1 g1 => []) h () (mod_cons (j := 17) rfl (fun _ _ h => h) mod_nil) .nil (fun L2 q1 g1 Q15 h hL2 eL2 rL2 => ?_)
  refine wsr ?_
  refine oV (v_lss rfl rfl) ?_
  refine rnf ?_
  refine w_seq ?_
  refine w_condM h rfl (fun _ h => ?_) (fun _ h => ?_)
  ·
   refine wkf ?_
   refine w_seq ?_
   refine w_block ?_
   refine wsr ?_
   refine oV (v_move rfl) ?_
   refine cal_inv h fun y9 hy9 h => ?_
   refine oV (v_ix (l := a_s1) rfl (fun _ _ h => h) rfl sl65 hy9) ?_
   refine oV (v_loadI ty149 rfl) ?_
   refine oT (t_alloc _ ze149 fun b10 => ?_)
   refine oV (v_assign rfl) ?_
   refine oT (t_storeC (y' := (y9 : Raw)) ty149 rfl rfl (fun _ _ h => h) .here rfl ?_)
   refine rl_upd (upd_imm 8 .here rfl) ?_
   refine rnf ?_
   refine wsr ?_
   refine oV (v_move rfl) ?_
   refine oV (v_move rfl) ?_
   refine cal_inv h fun y11 hy11 h => ?_
   refine oV (v_ix (l := a_s2) rfl (fun _ _ h => h) rfl sl65 hy11) ?_
   refine oV (v_loadI ty149 rfl) ?_
   refine oT (t_alloc _ ze149 fun b12 => ?_)
   refine oT (t_storeC (y' := (y11 : Raw)) ty149 rfl rfl (fun _ _ h => h) .here rfl ?_)
   refine rl_upd (upd_imm 9 .here rfl) ?_
   refine rnf ?_
   refine wsr ?_
   refine oV (v_move rfl) ?_
   refine oV (v_loadI ty149 rfl) ?_
   refine oV (v_loadI ty149 rfl) ?_
   refine cal_inv h fun y13 hy13 h => ?_
   refine oT (t_callC rfl (.same rfl (.same rfl .nil)) (value_sameRaw_w hy13) hT .nil (fun R H' hR => ?_))
   obtain ⟨rfl, rfl⟩ := hR
   refine oV (v_not rfl) ?_
   refine rnf ?_
   refine w_condM h rfl (fun _ h => ?_) (fun _ h => ?_)
   ·
    refine wsr ?_
    refine oV (v_assign rfl) ?_
    refine rnf ?_
    refine w_ret ?_
    refine ret_block ?_
    refine ret_nxt ?_
    refine rL2 _ ?_
    refine ret_block ?_
    refine ret_nxt ?_
    refine ret_post (.tmp rfl .nil) .nil ?_
    obtain rfl := Option.some.inj h
    exact ⟨rfl, rfl⟩
   ·
    refine w_skip ?_
    refine fin_block ?_
    refine fin_nxt ?_
    refine w_region ?_
    refine ck_inv h fun q14 h => ?_
    refine oV (v_add rfl rfl q14) ?_
    refine oV (v_move rfl) ?_
    refine rl_nil ?_
    exact hL2 _ () h _ (join_imp 21 rfl rfl (mod_cons (j := 17) rfl (fun _ _ h => h) mod_nil) .nil)
  ·
   refine w_exit ?_
   refine exi_nxt ?_
   refine eL2 _ _ ?_
   refine exi_block ?_
   refine fin_nxt ?_
   refine wsr ?_
   refine oV (v_assign rfl) ?_
   refine rnf ?_
   refine w_ret ?_
   refine ret_post (.tmp rfl .nil) .nil ?_
   obtain rfl := Option.some.inj h
   exact ⟨rfl, rfl⟩


def slices_EqualFunc_Lapi_Value_Lapi_Value_api_Value_api_Value_C (f' : (List Val) → (List Val) → Option (Bool)) : Prop :=
 ∀ {a_s1 : (List Val)} {a_s2 : (List Val)} {r : Bool}, f' a_s1 a_s2 = some r → Ctr Tryd.prog 128 [isv (a_s1), isv (a_s2), clov 116 []] [] (fun R H => R = oneOf [isv (r)] ∧ H = [])
def value_Same_C (f' : Val → Val → Option (Bool)) : Prop :=
 ∀ {a_a : Val} {a_b : Val} {r : Bool}, f' a_a a_b = some r → Ctr Tryd.prog 116 [isv (a_a), isv (a_b)] [] (fun R H => R = oneOf [isv (r)] ∧ H = [])
theorem slices_EqualFunc_Lapi_Value_Lapi_Value_api_Value_api_Value_w0 {slices_EqualFunc_Lapi_Value_Lapi_Value_api_Value_api_Value' : (List Val) → (List Val) → Option (Bool)} {value_Same' : Val → Val → Option (Bool)} (h_slices_EqualFunc_Lapi_Value_Lapi_Value_api_Value_api_Value : slices_EqualFunc_Lapi_Value_Lapi_Value_api_Value_api_Value_C slices_EqualFunc_Lapi_Value_Lapi_Value_api_Value_api_Value') (h_value_Same : value_Same_C value_Same') : ∀ {a_s1 : (List Val)} {a_s2 : (List Val)} {r : Bool}, slices_EqualFunc_Lapi_Value_Lapi_Value_api_Value_api_Value_F slices_EqualFunc_Lapi_Value_Lapi_Value_api_Value_api_Value' value_Same' a_s1 a_s2 = some r → Ctr Tryd.prog 128 [isv (a_s1), isv (a_s2), clov 116 []] [] (fun R H => R = oneOf [isv (r)] ∧ H = []) := by
 intro a_s1 a_s2 r h
 unfold slices_EqualFunc_Lapi_Value_Lapi_Value_api_Value_api_Value_F at h
 refine spec_intro Tryd.func128 rfl (by decide +kernel) (by rfl) fun w0 S0 hT => ?_
 refine wsr ?_
 refine oV (v_assign rfl) ?_
 refine rnf ?_
 refine w_seq ?_
 refine wsr ?_
 refine oV (v_move rfl) ?_
 refine oV (v_ln (l := a_s1) rfl (fun _ _ h => h) sl64) ?_
 refine oV (v_move rfl) ?_
 refine oV (v_ln (l := a_s2) rfl (fun _ _ h => h) sl64) ?_
 refine oV (v_neq rfl rfl) ?_
 refine rnf ?_
 refine w_condM h rfl (fun _ h => ?_) (fun _ h => ?_)
 ·
  refine wsr ?_
  refine oV (v_assign rfl) ?_
  refine rnf ?_
  refine w_ret ?_
  refine ret_nxt ?_
  refine ret_post (.tmp rfl .nil) .nil ?_
  obtain rfl := Option.some.inj h
  exact ⟨rfl, rfl⟩
 ·
  refine wkf ?_
  refine w_seq ?_
  refine wsr ?_
  refine oV (v_move rfl) ?_
  refine oV (v_ln (l := a_s1) rfl (fun _ _ h => h) sl64) ?_
  refine oV (v_move rfl) ?_
  refine rnf ?_
  refine w_block ?_
  refine w_lp (ι := Int) (γ := Unit) (fun q1 g1 => [(17, isv (q1))]) (fun q1 g1 => []) h () (mod_cons (j := 17) rfl (fun _ _ h => h) mod_nil) .nil (fun L2 q1 g1 Q15 h hL2 eL2 rL2 => ?_)
  refine wsr ?_
  refine oV (v_lss rfl rfl) ?_
  refine rnf ?_
  refine w_seq ?_
  refine w_condM h rfl (fun _ h => ?_) (fun _ h => ?_)
  ·
   refine wkf ?_
   refine w_seq ?_
   refine w_block ?_
   refine wsr ?_
   refine oV (v_move rfl) ?_
   refine cal_inv h fun y9 hy9 h => ?_
   refine oV (v_ix (l := a_s1) rfl (fun _ _ h => h) rfl sl64 hy9) ?_
   refine oV (v_loadI ty67 rfl) ?_
   refine oT (t_alloc _ ze67 fun b10 => ?_)
   refine oV (v_assign rfl) ?_
   refine oT (t_storeC (y' := (y9 : Val)) ty67 rfl rfl (fun _ _ h => h) .here rfl ?_)
   refine rl_upd (upd_imm 8 .here rfl) ?_
   refine rnf ?_
   refine wsr ?_
   refine oV (v_move rfl) ?_
   refine oV (v_move rfl) ?_
   refine cal_inv h fun y11 hy11 h => ?_
   refine oV (v_ix (l := a_s2) rfl (fun _ _ h => h) rfl sl64 hy11) ?_
   refine oV (v_loadI ty67 rfl) ?_
   refine oT (t_alloc _ ze67 fun b12 => ?_)
   refine oT (t_storeC (y' := (y11 : Val)) ty67 rfl rfl (fun _ _ h => h) .here rfl ?_)
   refine rl_upd (upd_imm 9 .here rfl) ?_
   refine rnf ?_
   refine wsr ?_
   refine oV (v_move rfl) ?_
   refine oV (v_loadI ty67 rfl) ?_
   refine oV (v_loadI ty67 rfl) ?_
   refine cal_inv h fun y13 hy13 h => ?_
   refine oT (t_callC rfl (.same rfl (.same rfl .nil)) (h_value_Same hy13) hT .nil (fun R H' hR => ?_))
   obtain ⟨rfl, rfl⟩ := hR
   refine oV (v_not rfl) ?_
   refine rnf ?_
   refine w_condM h rfl (fun _ h => ?_) (fun _ h => ?_)
   ·
    refine wsr ?_
    refine oV (v_assign rfl) ?_
    refine rnf ?_
    refine w_ret ?_
    refine ret_block ?_
    refine ret_nxt ?_
    refine rL2 _ ?_
    refine ret_block ?_
    refine ret_nxt ?_
    refine ret_post (.tmp rfl .nil) .nil ?_
    obtain rfl := Option.some.inj h
    exact ⟨rfl, rfl⟩
   ·
    refine w_skip ?_
    refine fin_block ?_
    refine fin_nxt ?_
    refine w_region ?_
    refine ck_inv h fun q14 h => ?_
    refine oV (v_add rfl rfl q14) ?_
    refine oV (v_move rfl) ?_
    refine rl_nil ?_
    exact hL2 _ () h _ (join_imp 21 rfl rfl (mod_cons (j := 17) rfl (fun _ _ h => h) mod_nil) .nil)
  ·
   refine w_exit ?_
   refine exi_nxt ?_
   refine eL2 _ _ ?_
   refine exi_block ?_
   refine fin_nxt ?_
   refine wsr ?_
   refine oV (v_assign rfl) ?_
   refine rnf ?_
   refine w_ret ?_
   refine ret_post (.tmp rfl .nil) .nil ?_
   obtain rfl := Option.some.inj h
   exact ⟨rfl, rfl⟩

theorem value_Same_w0 {slices_EqualFunc_Lapi_Value_Lapi_Value_api_Value_api_Value' : (List Val) → (List Val) → Option (Bool)} {value_Same' : Val → Val → Option (Bool)} (h_slices_EqualFunc_Lapi_Value_Lapi_Value_api_Value_api_Value : slices_EqualFunc_Lapi_Value_Lapi_Value_api_Value_api_Value_C slices_EqualFunc_Lapi_Value_Lapi_Value_api_Value_api_Value') (h_value_Same : value_Same_C value_Same') : ∀ {a_a : Val} {a_b : Val} {r : Bool}, value_Same_F slices_EqualFunc_Lapi_Value_Lapi_Value_api_Value_api_Value' value_Same' a_a a_b = some r → Ctr Tryd.prog 116 [isv (a_a), isv (a_b)] [] (fun R H => R = oneOf [isv (r)] ∧ H = []) := by
 intro a_a a_b r h
 unfold value_Same_F at h
 refine spec_intro Tryd.func116 rfl (by decide +kernel) (by rfl) fun w0 S0 hT => ?_
 refine wsr ?_
 refine oT (t_boxIC (y := a_a) rfl (fun _ _ h => h) ?_)
 refine oT (t_boxIC (y := a_b) rfl (fun _ _ h => h) ?_)
 refine oV (v_assign rfl) ?_
 refine rnf ?_
 refine wsr ?_
 refine oV (v_fi rfl Val.f0 fd67_0 rfl (z := a_a.kind)) ?_
 refine oV (v_loadI ty3 rfl) ?_
 refine oV (v_fi rfl Val.f0 fd67_0 rfl (z := a_b.kind)) ?_
 refine oV (v_loadI ty3 rfl) ?_
 refine oV (v_eql rfl rfl) ?_
 refine oV (v_move rfl) ?_
 refine rl_j (ι := Bool) (γ := Unit) (fun q1 g1 => [(16, isv (q1))]) (fun q1 g1 => []) .nil h 6 rfl (fun q1 g1 h => ?_) (fun J2 h hJ2 => ?_)
 ·
  refine oV (v_move rfl) ?_
  refine rl_j (ι := Bool) (γ := Unit) (fun q4 g4 => [(23, isv (q4))]) (fun q4 g4 => []) .nil h 6 rfl (fun q4 g4 h => ?_) (fun J5 h hJ5 => ?_)
  ·
   refine oV (v_move rfl) ?_
   refine rl_j (ι := Bool) (γ := Unit) (fun q8 g8 => [(30, isv (q8))]) (fun q8 g8 => []) .nil h 6 rfl (fun q8 g8 h => ?_) (fun J9 h hJ9 => ?_)
   ·
    refine oV (v_move rfl) ?_
    refine rl_j (ι := Bool) (γ := Unit) (fun q12 g12 => [(37, isv (q12))]) (fun q12 g12 => []) .nil h 6 rfl (fun q12 g12 h => ?_) (fun J13 h hJ13 => ?_)
    ·
     refine oV (v_move rfl) ?_
     refine rl_j (ι := Bool) (γ := Unit) (fun q15 g15 => [(44, isv (q15))]) (fun q15 g15 => []) .nil h 6 rfl (fun q15 g15 h => ?_) (fun J16 h hJ16 => ?_)
     ·
      refine oV (v_assign rfl) ?_
      refine rnf ?_
      refine w_ret ?_
      refine ret_post (.tmp rfl .nil) .nil ?_
      obtain rfl := Option.some.inj h
      exact ⟨rfl, rfl⟩
     ·
      refine rl_condM (j := 38) h rfl (fun g17 h => ?_) (fun g17 h => ?_)
      ·
       refine op_take rfl rfl (dj := 38) rfl g17 (OpV.t (v_fi rfl Val.f5 fd67_5 rfl (z := a_a.more)) ?_)
       refine op_take rfl rfl (dj := 38) rfl g17 (OpV.t (v_loadI ty65 rfl) ?_)
       refine op_take rfl rfl (dj := 38) rfl g17 (OpV.t (v_fi rfl Val.f5 fd67_5 rfl (z := a_b.more)) ?_)
       refine op_take rfl rfl (dj := 38) rfl g17 (OpV.t (v_loadI ty65 rfl) ?_)
       refine cal_inv h fun y18 hy18 h => ?_
       refine op_take rfl rfl (dj := 38) rfl g17 (t_call (slices_EqualFunc_Lapi_Raw_Lapi_Raw_api_Raw_api_Raw_w hy18) hT (.same rfl (.same rfl (.same rfl .nil))) .nil (fun R H' hR => ?_))
       obtain ⟨rfl, rfl⟩ := hR
       refine oV (v_pick_t rfl g17 rfl) ?_
       exact hJ16 _ () h _ (join_imp 6 rfl rfl (mod_cons (j := 44) rfl (fun _ _ h => h) mod_nil) .nil)
      ·
       refine op_pass rfl (dj := 38) rfl g17 ?_
       refine op_pass rfl (dj := 38) rfl g17 ?_
       refine op_pass rfl (dj := 38) rfl g17 ?_
       refine op_pass rfl (dj := 38) rfl g17 ?_
       refine op_pass rfl (dj := 38) rfl g17 ?_
       refine oV (v_pick_f rfl g17 rfl) ?_
       exact hJ16 _ () h _ (join_imp 6 rfl rfl (mod_cons (j := 44) rfl (fun _ _ h => h) mod_nil) .nil)
    ·
     refine rl_condM (j := 31) h rfl (fun g14 h => ?_) (fun g14 h => ?_)
     ·
      refine op_take rfl rfl (dj := 31) rfl g14 (OpV.t (v_fi rfl Val.f4 fd67_4 rfl (z := a_a.rule)) ?_)
      refine op_take rfl rfl (dj := 31) rfl g14 (OpV.t (v_loadI ty3 rfl) ?_)
      refine op_take rfl rfl (dj := 31) rfl g14 (OpV.t (v_fi rfl Val.f4 fd67_4 rfl (z := a_b.rule)) ?_)
      refine op_take rfl rfl (dj := 31) rfl g14 (OpV.t (v_loadI ty3 rfl) ?_)
      refine op_take rfl rfl (dj := 31) rfl g14 (OpV.t (v_eql rfl rfl) ?_)
      refine oV (v_pick_t rfl g14 rfl) ?_
      exact hJ13 _ () h _ (join_imp 6 rfl rfl (mod_cons (j := 37) rfl (fun _ _ h => h) mod_nil) .nil)
     ·
      refine op_pass rfl (dj := 31) rfl g14 ?_
      refine op_pass rfl (dj := 31) rfl g14 ?_
      refine op_pass rfl (dj := 31) rfl g14 ?_
      refine op_pass rfl (dj := 31) rfl g14 ?_
      refine op_pass rfl (dj := 31) rfl g14 ?_
      refine oV (v_pick_f rfl g14 rfl) ?_
      exact hJ13 _ () h _ (join_imp 6 rfl rfl (mod_cons (j := 37) rfl (fun _ _ h => h) mod_nil) .nil)
   ·
    refine rl_condM (j := 24) h rfl (fun g10 h => ?_) (fun g10 h => ?_)
    ·
     refine op_take rfl rfl (dj := 24) rfl g10 (OpV.t (v_fi rfl Val.f3 fd67_3 rfl (z := a_a.l)) ?_)
     refine op_take rfl rfl (dj := 24) rfl g10 (OpV.t (v_loadI ty64 rfl) ?_)
     refine op_take rfl rfl (dj := 24) rfl g10 (OpV.t (v_fi rfl Val.f3 fd67_3 rfl (z := a_b.l)) ?_)
     refine op_take rfl rfl (dj := 24) rfl g10 (OpV.t (v_loadI ty64 rfl) ?_)
     refine cal_inv h fun y11 hy11 h => ?_
     refine op_take rfl rfl (dj := 24) rfl g10 (t_call (h_slices_EqualFunc_Lapi_Value_Lapi_Value_api_Value_api_Value hy11) hT (.same rfl (.same rfl (.same rfl .nil))) .nil (fun R H' hR => ?_))
     obtain ⟨rfl, rfl⟩ := hR
     refine oV (v_pick_t rfl g10 rfl) ?_
     exact hJ9 _ () h _ (join_imp 6 rfl rfl (mod_cons (j := 30) rfl (fun _ _ h => h) mod_nil) .nil)
    ·
     refine op_pass rfl (dj := 24) rfl g10 ?_
     refine op_pass rfl (dj := 24) rfl g10 ?_
     refine op_pass rfl (dj := 24) rfl g10 ?_
     refine op_pass rfl (dj := 24) rfl g10 ?_
     refine op_pass rfl (dj := 24) rfl g10 ?_
     refine oV (v_pick_f rfl g10 rfl) ?_
     exact hJ9 _ () h _ (join_imp 6 rfl rfl (mod_cons (j := 30) rfl (fun _ _ h => h) mod_nil) .nil)
  ·
   refine rl_condM (j := 17) h rfl (fun g6 h => ?_) (fun g6 h => ?_)
   ·
    refine op_take rfl rfl (dj := 17) rfl g6 (OpV.t (v_fi rfl Val.f2 fd67_2 rfl (z := a_a.b)) ?_)
    refine op_take rfl rfl (dj := 17) rfl g6 (OpV.t (v_loadI ty63 rfl) ?_)
    refine op_take rfl rfl (dj := 17) rfl g6 (OpV.t (v_fi rfl Val.f2 fd67_2 rfl (z := a_b.b)) ?_)
    refine op_take rfl rfl (dj := 17) rfl g6 (OpV.t (v_loadI ty63 rfl) ?_)
    refine cal_inv h fun y7 hy7 h => ?_
    refine op_take rfl rfl (dj := 17) rfl g6 (t_call (bytes_Equal_w hy7) hT (.same rfl (.same rfl .nil)) .nil (fun R H' hR => ?_))
    obtain ⟨rfl, rfl⟩ := hR
    refine oV (v_pick_t rfl g6 rfl) ?_
    exact hJ5 _ () h _ (join_imp 6 rfl rfl (mod_cons (j := 23) rfl (fun _ _ h => h) mod_nil) .nil)
   ·
    refine op_pass rfl (dj := 17) rfl g6 ?_
    refine op_pass rfl (dj := 17) rfl g6 ?_
    refine op_pass rfl (dj := 17) rfl g6 ?_
    refine op_pass rfl (dj := 17) rfl g6 ?_
    refine op_pass rfl (dj := 17) rfl g6 ?_
    refine oV (v_pick_f rfl g6 rfl) ?_
    exact hJ5 _ () h _ (join_imp 6 rfl rfl (mod_cons (j := 23) rfl (fun _ _ h => h) mod_nil) .nil)
 ·
  refine rl_condM (j := 10) h rfl (fun g3 h => ?_) (fun g3 h => ?_)
  ·
   refine op_take rfl rfl (dj := 10) rfl g3 (OpV.t (v_fi rfl Val.f1 fd67_1 rfl (z := a_a.n)) ?_)
   refine op_take rfl rfl (dj := 10) rfl g3 (OpV.t (v_loadI ty2 rfl) ?_)
   refine op_take rfl rfl (dj := 10) rfl g3 (OpV.t (v_fi rfl Val.f1 fd67_1 rfl (z := a_b.n)) ?_)
   refine op_take rfl rfl (dj := 10) rfl g3 (OpV.t (v_loadI ty2 rfl) ?_)
   refine op_take rfl rfl (dj := 10) rfl g3 (OpV.t (v_eql rfl rfl) ?_)
   refine oV (v_pick_t rfl g3 rfl) ?_
   exact hJ2 _ () h _ (join_imp 6 rfl rfl (mod_cons (j := 16) rfl (fun _ _ h => h) mod_nil) .nil)
  ·
   refine op_pass rfl (dj := 10) rfl g3 ?_
   refine op_pass rfl (dj := 10) rfl g3 ?_
   refine op_pass rfl (dj := 10) rfl g3 ?_
   refine op_pass rfl (dj := 10) rfl g3 ?_
   refine op_pass rfl (dj := 10) rfl g3 ?_
   refine oV (v_pick_f rfl g3 rfl) ?_
   exact hJ2 _ () h _ (join_imp 6 rfl rfl (mod_cons (j := 16) rfl (fun _ _ h => h) mod_nil) .nil)

theorem slices_EqualFunc_Lapi_Value_Lapi_Value_api_Value_api_Value_grp_w : ∀ n, slices_EqualFunc_Lapi_Value_Lapi_Value_api_Value_api_Value_C (slices_EqualFunc_Lapi_Value_Lapi_Value_api_Value_api_Value n) ∧ value_Same_C (value_Same n)
 | 0 => ⟨fun h => (by cases h), fun h => (by cases h)⟩
 | n + 1 => by
  obtain ⟨h0, h1⟩ := slices_EqualFunc_Lapi_Value_Lapi_Value_api_Value_api_Value_grp_w n
  exact ⟨slices_EqualFunc_Lapi_Value_Lapi_Value_api_Value_api_Value_w0 h0 h1, value_Same_w0 h0 h1⟩
theorem slices_EqualFunc_Lapi_Value_Lapi_Value_api_Value_api_Value_w (n : Nat) : slices_EqualFunc_Lapi_Value_Lapi_Value_api_Value_api_Value_C (slices_EqualFunc_Lapi_Value_Lapi_Value_api_Value_api_Value n) := (slices_EqualFunc_Lapi_Value_Lapi_Value_api_Value_api_Value_grp_w n).1
theorem value_Same_w (n : Nat) : value_Same_C (value_Same n) := (slices_EqualFunc_Lapi_Value_Lapi_Value_api_Value_api_Value_grp_w n).2

def extend_walker_field_C (f' : GXwk → GFld → GFld → Option (Bool × GXwk)) : Prop :=
 ∀ {a_w_ : GXwk} {a_f : GFld} {a_g : GFld} {b_a_w_ : Nat} {r : Bool × GXwk}, f' a_w_ a_f a_g = some r → Ctr Tryd.prog 89 [ptrv b_a_w_ (Fld.id GXwk), isv (a_f), isv (a_g)] [boxE b_a_w_ (a_w_ : GXwk)] (fun R H => R = oneOf [isv (r.1)] ∧ H = [boxE b_a_w_ (r.2)])
def extend_walker_extends_C (f' : GXwk → Int → Int → Option (Bool × GXwk)) : Prop :=
 ∀ {a_w_ : GXwk} {a_i : Int} {a_k : Int} {b_a_w_ : Nat} {r : Bool × GXwk}, f' a_w_ a_i a_k = some r → Ctr Tryd.prog 35 [ptrv b_a_w_ (Fld.id GXwk), isv (a_i), isv (a_k)] [boxE b_a_w_ (a_w_ : GXwk)] (fun R H => R = oneOf [isv (r.1)] ∧ H = [boxE b_a_w_ (r.2)])
def extend_walker_fields_C (f' : GXwk → GTyp → GTyp → Option (Bool × GXwk)) : Prop :=
 ∀ {a_w_ : GXwk} {a_x : GTyp} {a_y : GTyp} {b_a_w_ : Nat} {r : Bool × GXwk}, f' a_w_ a_x a_y = some r → Ctr Tryd.prog 63 [ptrv b_a_w_ (Fld.id GXwk), isv (a_x), isv (a_y)] [boxE b_a_w_ (a_w_ : GXwk)] (fun R H => R = oneOf [isv (r.1)] ∧ H = [boxE b_a_w_ (r.2)])
theorem extend_walker_field_w0 {extend_walker_field' : GXwk → GFld → GFld → Option (Bool × GXwk)} {extend_walker_extends' : GXwk → Int → Int → Option (Bool × GXwk)} {extend_walker_fields' : GXwk → GTyp → GTyp → Option (Bool × GXwk)} (h_extend_walker_field : extend_walker_field_C extend_walker_field') (h_extend_walker_extends : extend_walker_extends_C extend_walker_extends') (h_extend_walker_fields : extend_walker_fields_C extend_walker_fields') : ∀ {a_w_ : GXwk} {a_f : GFld} {a_g : GFld} {b_a_w_ : Nat} {r : Bool × GXwk}, extend_walker_field_F extend_walker_field' extend_walker_extends' extend_walker_fields' a_w_ a_f a_g = some r → Ctr Tryd.prog 89 [ptrv b_a_w_ (Fld.id GXwk), isv (a_f), isv (a_g)] [boxE b_a_w_ (a_w_ : GXwk)] (fun R H => R = oneOf [isv (r.1)] ∧ H = [boxE b_a_w_ (r.2)]) := by
 intro a_w_ a_f a_g b_a_w_ r h
 unfold extend_walker_field_F at h
 refine spec_intro Tryd.func89 rfl (by decide +kernel) (by rfl) fun w0 S0 hT => ?_
 refine wsr ?_
 refine oT (t_boxIC (y := a_f) rfl (fun _ _ h => h) ?_)
 refine oT (t_boxIC (y := a_g) rfl (fun _ _ h => h) ?_)
 refine oV (v_assign rfl) ?_
 refine rnf ?_
 refine wsr ?_
 refine oV (v_fi rfl GFld.f0 fd69_0 rfl (z := a_f.name)) ?_
 refine oV (v_loadI ty9 rfl) ?_
 refine oV (v_fi rfl GFld.f0 fd69_0 rfl (z := a_g.name)) ?_
 refine oV (v_loadI ty9 rfl) ?_
 refine oV (v_eqA eq9 rfl rfl) ?_
 refine oV (v_move rfl) ?_
 refine rl_j (ι := Bool) (γ := Unit) (fun q1 g1 => [(18, isv (q1))]) (fun q1 g1 => []) .nil h 6 rfl (fun q1 g1 h => ?_) (fun J2 h hJ2 => ?_)
 ·
  refine oV (v_move rfl) ?_
  refine rl_j (ι := Bool) (γ := Unit) (fun q4 g4 => [(25, isv (q4))]) (fun q4 g4 => []) .nil h 6 rfl (fun q4 g4 h => ?_) (fun J5 h hJ5 => ?_)
  ·
   refine oV (v_move rfl) ?_
   refine rl_j (ι := Bool) (γ := Unit) (fun q7 g7 => [(32, isv (q7))]) (fun q7 g7 => []) .nil h 6 rfl (fun q7 g7 h => ?_) (fun J8 h hJ8 => ?_)
   ·
    refine oV (v_move rfl) ?_
    refine rl_j (ι := Bool) (γ := Unit) (fun q11 g11 => [(39, isv (q11))]) (fun q11 g11 => []) .nil h 6 rfl (fun q11 g11 h => ?_) (fun J12 h hJ12 => ?_)
    ·
     refine oV (v_move rfl) ?_
     refine rl_j (ι := Bool × GXwk) (γ := Unit) (fun q14 g14 => [(47, isv (q14.1))]) (fun q14 g14 => [boxE b_a_w_ (q14.2 : GXwk)]) (.cons .here .nil) h 7 rfl (fun q14 g14 h => ?_) (fun J15 h hJ15 => ?_)
     ·
      refine oV (v_assign rfl) ?_
      refine rnf ?_
      refine w_ret ?_
      refine ret_post (.tmp rfl .nil) (.cons .here .nil) ?_
      obtain rfl := Option.some.inj h
      exact ⟨rfl, rfl⟩
     ·
      refine rl_condM (j := 40) h rfl (fun g16 h => ?_) (fun g16 h => ?_)
      ·
       refine op_take rfl rfl (dj := 40) rfl g16 (OpV.t (v_move rfl) ?_)
       refine op_take rfl rfl (dj := 40) rfl g16 (OpV.t (v_fi rfl GFld.f1 fd69_1 rfl (z := a_f.ty)) ?_)
       refine op_take rfl rfl (dj := 40) rfl g16 (OpV.t (v_loadI ty3 rfl) ?_)
       refine op_take rfl rfl (dj := 40) rfl g16 (OpV.t (v_fi rfl GFld.f1 fd69_1 rfl (z := a_g.ty)) ?_)
       refine op_take rfl rfl (dj := 40) rfl g16 (OpV.t (v_loadI ty3 rfl) ?_)
       refine cal_inv h fun y17 hy17 h => ?_
       refine op_take rfl rfl (dj := 40) rfl g16 (t_call (h_extend_walker_extends hy17) hT (.same rfl (.same rfl (.same rfl .nil))) (.cons .here .nil) (fun R H' hR => ?_))
       obtain ⟨rfl, rfl⟩ := hR
       refine oV (v_pick_t rfl g16 rfl) ?_
       exact hJ15 _ () h _ (join_imp 7 rfl rfl (mod_cons (j := 47) rfl (fun _ _ h => h) mod_nil) (.cons .here .nil))
      ·
       refine op_pass rfl (dj := 40) rfl g16 ?_
       refine op_pass rfl (dj := 40) rfl g16 ?_
       refine op_pass rfl (dj := 40) rfl g16 ?_
       refine op_pass rfl (dj := 40) rfl g16 ?_
       refine op_pass rfl (dj := 40) rfl g16 ?_
       refine op_pass rfl (dj := 40) rfl g16 ?_
       refine oV (v_pick_f rfl g16 rfl) ?_
       exact hJ15 _ () h _ (join_imp 7 rfl rfl (mod_cons (j := 47) rfl (fun _ _ h => h) mod_nil) (.cons .here .nil))
    ·
     refine rl_condM (j := 33) h rfl (fun g13 h => ?_) (fun g13 h => ?_)
     ·
      refine op_take rfl rfl (dj := 33) rfl g13 (OpV.t (v_fi rfl GFld.f5 fd69_5 rfl (z := a_f.group)) ?_)
      refine op_take rfl rfl (dj := 33) rfl g13 (OpV.t (v_loadI ty3 rfl) ?_)
      refine op_take rfl rfl (dj := 33) rfl g13 (OpV.t (v_fi rfl GFld.f5 fd69_5 rfl (z := a_g.group)) ?_)
      refine op_take rfl rfl (dj := 33) rfl g13 (OpV.t (v_loadI ty3 rfl) ?_)
      refine op_take rfl rfl (dj := 33) rfl g13 (OpV.t (v_eql rfl rfl) ?_)
      refine oV (v_pick_t rfl g13 rfl) ?_
      exact hJ12 _ () h _ (join_imp 6 rfl rfl (mod_cons (j := 39) rfl (fun _ _ h => h) mod_nil) (.cons .here .nil))
     ·
      refine op_pass rfl (dj := 33) rfl g13 ?_
      refine op_pass rfl (dj := 33) rfl g13 ?_
      refine op_pass rfl (dj := 33) rfl g13 ?_
      refine op_pass rfl (dj := 33) rfl g13 ?_
      refine op_pass rfl (dj := 33) rfl g13 ?_
      refine oV (v_pick_f rfl g13 rfl) ?_
      exact hJ12 _ () h _ (join_imp 6 rfl rfl (mod_cons (j := 39) rfl (fun _ _ h => h) mod_nil) (.cons .here .nil))
   ·
    refine rl_condM (j := 26) h rfl (fun g9 h => ?_) (fun g9 h => ?_)
    ·
     refine op_take rfl rfl (dj := 26) rfl g9 (OpV.t (v_fi rfl GFld.f4 fd69_4 rfl (z := a_f.dflt)) ?_)
     refine op_take rfl rfl (dj := 26) rfl g9 (OpV.t (v_loadI ty67 rfl) ?_)
     refine op_take rfl rfl (dj := 26) rfl g9 (OpV.t (v_fi rfl GFld.f4 fd69_4 rfl (z := a_g.dflt)) ?_)
     refine op_take rfl rfl (dj := 26) rfl g9 (OpV.t (v_loadI ty67 rfl) ?_)
     refine cal_inv h fun y10 hy10 h => ?_
     refine op_take rfl rfl (dj := 26) rfl g9 (t_call (value_Same_w fuel hy10) hT (.same rfl (.same rfl .nil)) .nil (fun R H' hR => ?_))
     obtain ⟨rfl, rfl⟩ := hR
     refine oV (v_pick_t rfl g9 rfl) ?_
     exact hJ8 _ () h _ (join_imp 6 rfl rfl (mod_cons (j := 32) rfl (fun _ _ h => h) mod_nil) (.cons .here .nil))
    ·
     refine op_pass rfl (dj := 26) rfl g9 ?_
     refine op_pass rfl (dj := 26) rfl g9 ?_
     refine op_pass rfl (dj := 26) rfl g9 ?_
     refine op_pass rfl (dj := 26) rfl g9 ?_
     refine op_pass rfl (dj := 26) rfl g9 ?_
     refine oV (v_pick_f rfl g9 rfl) ?_
     exact hJ8 _ () h _ (join_imp 6 rfl rfl (mod_cons (j := 32) rfl (fun _ _ h => h) mod_nil) (.cons .here .nil))
  ·
   refine rl_condM (j := 19) h rfl (fun g6 h => ?_) (fun g6 h => ?_)
   ·
    refine op_take rfl rfl (dj := 19) rfl g6 (OpV.t (v_fi rfl GFld.f3 fd69_3 rfl (z := a_f.has)) ?_)
    refine op_take rfl rfl (dj := 19) rfl g6 (OpV.t (v_loadI ty4 rfl) ?_)
    refine op_take rfl rfl (dj := 19) rfl g6 (OpV.t (v_fi rfl GFld.f3 fd69_3 rfl (z := a_g.has)) ?_)
    refine op_take rfl rfl (dj := 19) rfl g6 (OpV.t (v_loadI ty4 rfl) ?_)
    refine op_take rfl rfl (dj := 19) rfl g6 (OpV.t (v_eqA eq4 rfl rfl) ?_)
    refine oV (v_pick_t rfl g6 rfl) ?_
    exact hJ5 _ () h _ (join_imp 6 rfl rfl (mod_cons (j := 25) rfl (fun _ _ h => h) mod_nil) (.cons .here .nil))
   ·
    refine op_pass rfl (dj := 19) rfl g6 ?_
    refine op_pass rfl (dj := 19) rfl g6 ?_
    refine op_pass rfl (dj := 19) rfl g6 ?_
    refine op_pass rfl (dj := 19) rfl g6 ?_
    refine op_pass rfl (dj := 19) rfl g6 ?_
    refine oV (v_pick_f rfl g6 rfl) ?_
    exact hJ5 _ () h _ (join_imp 6 rfl rfl (mod_cons (j := 25) rfl (fun _ _ h => h) mod_nil) (.cons .here .nil))
 ·
  refine rl_condM (j := 12) h rfl (fun g3 h => ?_) (fun g3 h => ?_)
  ·
   refine op_take rfl rfl (dj := 12) rfl g3 (OpV.t (v_fi rfl GFld.f2 fd69_2 rfl (z := a_f.optional)) ?_)
   refine op_take rfl rfl (dj := 12) rfl g3 (OpV.t (v_loadI ty4 rfl) ?_)
   refine op_take rfl rfl (dj := 12) rfl g3 (OpV.t (v_fi rfl GFld.f2 fd69_2 rfl (z := a_g.optional)) ?_)
   refine op_take rfl rfl (dj := 12) rfl g3 (OpV.t (v_loadI ty4 rfl) ?_)
   refine op_take rfl rfl (dj := 12) rfl g3 (OpV.t (v_eqA eq4 rfl rfl) ?_)
   refine oV (v_pick_t rfl g3 rfl) ?_
   exact hJ2 _ () h _ (join_imp 6 rfl rfl (mod_cons (j := 18) rfl (fun _ _ h => h) mod_nil) (.cons .here .nil))
  ·
   refine op_pass rfl (dj := 12) rfl g3 ?_
   refine op_pass rfl (dj := 12) rfl g3 ?_
   refine op_pass rfl (dj := 12) rfl g3 ?_
   refine op_pass rfl (dj := 12) rfl g3 ?_
   refine op_pass rfl (dj := 12) rfl g3 ?_
   refine oV (v_pick_f rfl g3 rfl) ?_
   exact hJ2 _ () h _ (join_imp 6 rfl rfl (mod_cons (j := 18) rfl (fun _ _ h => h) mod_nil) (.cons .here .nil))

theorem extend_walker_extends_w0 {extend_walker_field' : GXwk → GFld → GFld → Option (Bool × GXwk)} {extend_walker_extends' : GXwk → Int → Int → Option (Bool × GXwk)} {extend_walker_fields' : GXwk → GTyp → GTyp → Option (Bool × GXwk)} (h_extend_walker_field : extend_walker_field_C extend_walker_field') (h_extend_walker_extends : extend_walker_extends_C extend_walker_extends') (h_extend_walker_fields : extend_walker_fields_C extend_walker_fields') : ∀ {a_w_ : GXwk} {a_i : Int} {a_k : Int} {b_a_w_ : Nat} {r : Bool × GXwk}, extend_walker_extends_F extend_walker_field' extend_walker_extends' extend_walker_fields' a_w_ a_i a_k = some r → Ctr Tryd.prog 35 [ptrv b_a_w_ (Fld.id GXwk), isv (a_i), isv (a_k)] [boxE b_a_w_ (a_w_ : GXwk)] (fun R H => R = oneOf [isv (r.1)] ∧ H = [boxE b_a_w_ (r.2)]) := by
 intro a_w_ a_i a_k b_a_w_ r h
 unfold extend_walker_extends_F at h
 refine spec_intro Tryd.func35 rfl (by decide +kernel) (by rfl) fun w0 S0 hT => ?_
 refine wsr ?_
 refine oV (v_assign rfl) ?_
 refine rnf ?_
 refine wsr ?_
 refine oV (v_move rfl) ?_
 refine oV (v_nilCheck rfl) ?_
 refine oV (v_fa rfl GXwk.f0 fd84_0) ?_
 refine oT (t_loadC (R := isv (a_w_.sides)) ty82 rfl .here (fun _ _ h => h) ?_)
 refine oV (v_move rfl) ?_
 refine oV (v_move rfl) ?_
 refine cal_inv h fun y1 hy1 h => ?_
 refine oT (t_call (extend_sides_types_w hy1) hT (.same rfl (.same rfl (.same rfl .nil))) .nil (fun R H' hR => ?_))
 obtain ⟨rfl, rfl⟩ := hR
 refine oV (v_move rfl) ?_
 refine oV (v_extract rfl rfl) ?_
 refine oV (v_extract rfl rfl) ?_
 refine oV (v_extract rfl rfl) ?_
 refine oT (t_alloc _ ze58 fun b2 => ?_)
 refine oT (t_alloc _ ze58 fun b3 => ?_)
 refine oT (t_storeC (y' := (y1.1 : GTyp)) ty58 rfl rfl (fun _ _ h => h) (.there .here) rfl ?_)
 refine rl_upd (upd_imm 7 .here rfl) ?_
 refine oT (t_storeC (y' := (y1.2.1 : GTyp)) ty58 rfl rfl (fun _ _ h => h) .here rfl ?_)
 refine rl_upd (upd_imm 8 .here rfl) ?_
 refine oV (v_assign rfl) ?_
 refine rnf ?_
 refine w_seq ?_
 refine wsr ?_
 refine oV (v_move rfl) ?_
 refine oV (v_nilCheck rfl) ?_
 refine oV (v_fa rfl GXwk.f1 fd84_1) ?_
 refine oT (t_loadC (R := isv (a_w_.left)) ty3 rfl .here (fun _ _ h => h) ?_)
 refine ck_inv h fun q4 h => ?_
 refine oV (v_sub rfl rfl q4) ?_
 refine oV (v_nilCheck rfl) ?_
 refine oV (v_fa rfl GXwk.f1 fd84_1) ?_
 refine oT (t_storeC (y' := ({ a_w_ with left := (a_w_.left - (1 : Int)) } : GXwk)) ty3 rfl rfl (fun _ _ h => h) .here rfl ?_)
 refine rnf ?_
 refine wsr ?_
 refine oV (v_move rfl) ?_
 refine oV (v_not rfl) ?_
 refine oV (v_move rfl) ?_
 refine rl_j (ι := Bool) (γ := Unit) (fun q5 g5 => [(36, isv (q5))]) (fun q5 g5 => []) .nil h 6 rfl (fun q5 g5 h => ?_) (fun J6 h hJ6 => ?_)
 ·
  refine oV (v_move rfl) ?_
  refine rl_j (ι := Bool) (γ := Unit) (fun q8 g8 => [(43, isv (q8))]) (fun q8 g8 => []) .nil h 6 rfl (fun q8 g8 h => ?_) (fun J9 h hJ9 => ?_)
  ·
   refine oV (v_move rfl) ?_
   refine rl_j (ι := Bool) (γ := Unit) (fun q11 g11 => [(51, isv (q11))]) (fun q11 g11 => []) .nil h 7 rfl (fun q11 g11 h => ?_) (fun J12 h hJ12 => ?_)
   ·
    refine oV (v_move rfl) ?_
    refine rl_j (ι := Bool) (γ := Unit) (fun q15 g15 => [(58, isv (q15))]) (fun q15 g15 => []) .nil h 6 rfl (fun q15 g15 h => ?_) (fun J16 h hJ16 => ?_)
    ·
     refine oV (v_move rfl) ?_
     refine rl_j (ι := Bool) (γ := Unit) (fun q18 g18 => [(65, isv (q18))]) (fun q18 g18 => []) .nil h 6 rfl (fun q18 g18 h => ?_) (fun J19 h hJ19 => ?_)
     ·
      refine rnf ?_
      refine w_condM h rfl (fun _ h => ?_) (fun _ h => ?_)
      ·
       refine wsr ?_
       refine oV (v_assign rfl) ?_
       refine rnf ?_
       refine w_ret ?_
       refine ret_nxt ?_
       refine ret_post (.tmp rfl .nil) (.cons .here .nil) ?_
       obtain rfl := Option.some.inj h
       exact ⟨rfl, rfl⟩
      ·
       refine wkf ?_
       refine w_seq ?_
       refine wsr ?_
       refine oV (v_fi rfl GTyp.f0 fd58_0 rfl (z := y1.1.kind)) ?_
       refine oV (v_loadI ty3 rfl) ?_
       refine rnf ?_
       refine w_block ?_
       refine wsr ?_
       refine oV (v_eql rfl rfl) ?_
       refine oV (v_assign rfl) ?_
       refine rnf ?_
       refine w_condM h rfl (fun _ h => ?_) (fun _ h => ?_)
       ·
        refine wsr ?_
        refine oV (v_move rfl) ?_
        refine oV (v_fi rfl GTyp.f7 fd58_7 rfl (z := y1.1.of)) ?_
        refine oV (v_loadI ty3 rfl) ?_
        refine oV (v_fi rfl GTyp.f7 fd58_7 rfl (z := y1.2.1.of)) ?_
        refine oV (v_loadI ty3 rfl) ?_
        refine cal_inv h fun y21 hy21 h => ?_
        refine oT (t_call (h_extend_walker_extends hy21) hT (.same rfl (.same rfl (.same rfl .nil))) (.cons .here .nil) (fun R H' hR => ?_))
        obtain ⟨rfl, rfl⟩ := hR
        refine oV (v_assign rfl) ?_
        refine rnf ?_
        refine w_ret ?_
        refine ret_block ?_
        refine ret_nxt ?_
        refine ret_post (.tmp rfl .nil) (.cons .here .nil) ?_
        obtain rfl := Option.some.inj h
        exact ⟨rfl, rfl⟩
       ·
        refine wsr ?_
        refine oV (v_eql rfl rfl) ?_
        refine oV (v_assign rfl) ?_
        refine rnf ?_
        refine w_condM h rfl (fun _ h => ?_) (fun _ h => ?_)
        ·
         refine wsr ?_
         refine oV (v_loadI ty58 rfl) ?_
         refine oV (v_loadI ty58 rfl) ?_
         refine cal_inv h fun y22 hy22 h => ?_
         refine oT (t_call (extend_items_w hy22) hT (.same rfl (.same rfl .nil)) .nil (fun R H' hR => ?_))
         obtain ⟨rfl, rfl⟩ := hR
         refine oV (v_assign rfl) ?_
         refine rnf ?_
         refine w_ret ?_
         refine ret_block ?_
         refine ret_nxt ?_
         refine ret_post (.tmp rfl .nil) (.cons .here .nil) ?_
         obtain rfl := Option.some.inj h
         exact ⟨rfl, rfl⟩
        ·
         refine w_seq ?_
         refine wsr ?_
         refine oV (v_eql rfl rfl) ?_
         refine oV (v_assign rfl) ?_
         refine rnf ?_
         refine w_J (ι := Bool) (γ := Unit) (fun q23 g23 => [(81, isv (q23))]) (fun q23 g23 => []) .nil h (fun q23 g23 h => ?_) (fun J24 h hJ24 => ?_)
         ·
          refine w_condM h rfl (fun _ h => ?_) (fun _ h => ?_)
          ·
           refine wsr ?_
           refine oV (v_move rfl) ?_
           refine oV (v_loadI ty58 rfl) ?_
           refine oV (v_loadI ty58 rfl) ?_
           refine cal_inv h fun y25 hy25 h => ?_
           refine oT (t_call (h_extend_walker_fields hy25) hT (.same rfl (.same rfl (.same rfl .nil))) (.cons .here .nil) (fun R H' hR => ?_))
           obtain ⟨rfl, rfl⟩ := hR
           refine oV (v_assign rfl) ?_
           refine rnf ?_
           refine w_ret ?_
           refine ret_block ?_
           refine ret_nxt ?_
           refine ret_post (.tmp rfl .nil) (.cons .here .nil) ?_
           obtain rfl := Option.some.inj h
           exact ⟨rfl, rfl⟩
          ·
           refine w_skip ?_
           refine fin_block ?_
           refine fin_nxt ?_
           refine wsr ?_
           refine oV (v_assign rfl) ?_
           refine rnf ?_
           refine w_ret ?_
           refine ret_post (.tmp rfl .nil) (.cons .here .nil) ?_
           obtain rfl := Option.some.inj h
           exact ⟨rfl, rfl⟩
         ·
          refine w_condM h rfl (fun _ h => ?_) (fun _ h => ?_)
          ·
           refine w_skip ?_
           exact hJ24 _ () h _ (join_imp 0 rfl rfl (mod_cons (j := 81) rfl (fun _ _ h => h) mod_nil) (.cons .here .nil))
          ·
           refine wsr ?_
           refine oV (v_eql rfl rfl) ?_
           refine oV (v_assign rfl) ?_
           refine rnf ?_
           refine w_condM h rfl (fun _ h => ?_) (fun _ h => ?_)
           ·
            refine w_skip ?_
            exact hJ24 _ () h _ (join_imp 2 rfl rfl (mod_cons (j := 81) rfl (fun _ _ h => h) mod_nil) (.cons .here .nil))
           ·
            refine w_region ?_
            refine oV (v_eql rfl rfl) ?_
            refine oV (v_assign rfl) ?_
            refine rl_nil ?_
            exact hJ24 _ () h _ (join_imp 4 rfl rfl (mod_cons (j := 81) rfl (fun _ _ h => h) mod_nil) (.cons .here .nil))
     ·
      refine rl_condM (j := 59) h rfl (fun g20 h => ?_) (fun g20 h => ?_)
      ·
       refine op_pass rfl (dj := 59) rfl g20 ?_
       refine op_pass rfl (dj := 59) rfl g20 ?_
       refine op_pass rfl (dj := 59) rfl g20 ?_
       refine op_pass rfl (dj := 59) rfl g20 ?_
       refine op_pass rfl (dj := 59) rfl g20 ?_
       refine oV (v_pick_t rfl g20 rfl) ?_
       exact hJ19 _ () h _ (join_imp 6 rfl rfl (mod_cons (j := 65) rfl (fun _ _ h => h) mod_nil) (.cons .here .nil))
      ·
       refine op_take rfl rfl (dj := 59) rfl g20 (OpV.t (v_fi rfl GTyp.f6 fd58_6 rfl (z := y1.1.more)) ?_)
       refine op_take rfl rfl (dj := 59) rfl g20 (OpV.t (v_loadI ty4 rfl) ?_)
       refine op_take rfl rfl (dj := 59) rfl g20 (OpV.t (v_fi rfl GTyp.f6 fd58_6 rfl (z := y1.2.1.more)) ?_)
       refine op_take rfl rfl (dj := 59) rfl g20 (OpV.t (v_loadI ty4 rfl) ?_)
       refine op_take rfl rfl (dj := 59) rfl g20 (OpV.t (v_neA eq4 rfl rfl) ?_)
       refine oV (v_pick_f rfl g20 rfl) ?_
       exact hJ19 _ () h _ (join_imp 6 rfl rfl (mod_cons (j := 65) rfl (fun _ _ h => h) mod_nil) (.cons .here .nil))
    ·
     refine rl_condM (j := 52) h rfl (fun g17 h => ?_) (fun g17 h => ?_)
     ·
      refine op_pass rfl (dj := 52) rfl g17 ?_
      refine op_pass rfl (dj := 52) rfl g17 ?_
      refine op_pass rfl (dj := 52) rfl g17 ?_
      refine op_pass rfl (dj := 52) rfl g17 ?_
      refine op_pass rfl (dj := 52) rfl g17 ?_
      refine oV (v_pick_t rfl g17 rfl) ?_
      exact hJ16 _ () h _ (join_imp 6 rfl rfl (mod_cons (j := 58) rfl (fun _ _ h => h) mod_nil) (.cons .here .nil))
     ·
      refine op_take rfl rfl (dj := 52) rfl g17 (OpV.t (v_fi rfl GTyp.f2 fd58_2 rfl (z := y1.1.con)) ?_)
      refine op_take rfl rfl (dj := 52) rfl g17 (OpV.t (v_loadI ty54 rfl) ?_)
      refine op_take rfl rfl (dj := 52) rfl g17 (OpV.t (v_fi rfl GTyp.f2 fd58_2 rfl (z := y1.2.1.con)) ?_)
      refine op_take rfl rfl (dj := 52) rfl g17 (OpV.t (v_loadI ty54 rfl) ?_)
      refine op_take rfl rfl (dj := 52) rfl g17 (OpV.t (v_neA eq54 rfl rfl) ?_)
      refine oV (v_pick_f rfl g17 rfl) ?_
      exact hJ16 _ () h _ (join_imp 6 rfl rfl (mod_cons (j := 58) rfl (fun _ _ h => h) mod_nil) (.cons .here .nil))
   ·
    refine rl_condM (j := 44) h rfl (fun g13 h => ?_) (fun g13 h => ?_)
    ·
     refine op_pass rfl (dj := 44) rfl g13 ?_
     refine op_pass rfl (dj := 44) rfl g13 ?_
     refine op_pass rfl (dj := 44) rfl g13 ?_
     refine op_pass rfl (dj := 44) rfl g13 ?_
     refine op_pass rfl (dj := 44) rfl g13 ?_
     refine op_pass rfl (dj := 44) rfl g13 ?_
     refine oV (v_pick_t rfl g13 rfl) ?_
     exact hJ12 _ () h _ (join_imp 7 rfl rfl (mod_cons (j := 51) rfl (fun _ _ h => h) mod_nil) (.cons .here .nil))
    ·
     refine op_take rfl rfl (dj := 44) rfl g13 (OpV.t (v_fi rfl GTyp.f1 fd58_1 rfl (z := y1.1.tags)) ?_)
     refine op_take rfl rfl (dj := 44) rfl g13 (OpV.t (v_loadI ty52 rfl) ?_)
     refine op_take rfl rfl (dj := 44) rfl g13 (OpV.t (v_fi rfl GTyp.f1 fd58_1 rfl (z := y1.2.1.tags)) ?_)
     refine op_take rfl rfl (dj := 44) rfl g13 (OpV.t (v_loadI ty52 rfl) ?_)
     refine cal_inv h fun y14 hy14 h => ?_
     refine op_take rfl rfl (dj := 44) rfl g13 (t_call (slices_Equal_Lapi_Tag_api_Tag_w hy14) hT (.same rfl (.same rfl .nil)) .nil (fun R H' hR => ?_))
     obtain ⟨rfl, rfl⟩ := hR
     refine op_take rfl rfl (dj := 44) rfl g13 (OpV.t (v_not rfl) ?_)
     refine oV (v_pick_f rfl g13 rfl) ?_
     exact hJ12 _ () h _ (join_imp 7 rfl rfl (mod_cons (j := 51) rfl (fun _ _ h => h) mod_nil) (.cons .here .nil))
  ·
   refine rl_condM (j := 37) h rfl (fun g10 h => ?_) (fun g10 h => ?_)
   ·
    refine op_pass rfl (dj := 37) rfl g10 ?_
    refine op_pass rfl (dj := 37) rfl g10 ?_
    refine op_pass rfl (dj := 37) rfl g10 ?_
    refine op_pass rfl (dj := 37) rfl g10 ?_
    refine op_pass rfl (dj := 37) rfl g10 ?_
    refine oV (v_pick_t rfl g10 rfl) ?_
    exact hJ9 _ () h _ (join_imp 6 rfl rfl (mod_cons (j := 43) rfl (fun _ _ h => h) mod_nil) (.cons .here .nil))
   ·
    refine op_take rfl rfl (dj := 37) rfl g10 (OpV.t (v_fi rfl GTyp.f0 fd58_0 rfl (z := y1.1.kind)) ?_)
    refine op_take rfl rfl (dj := 37) rfl g10 (OpV.t (v_loadI ty3 rfl) ?_)
    refine op_take rfl rfl (dj := 37) rfl g10 (OpV.t (v_fi rfl GTyp.f0 fd58_0 rfl (z := y1.2.1.kind)) ?_)
    refine op_take rfl rfl (dj := 37) rfl g10 (OpV.t (v_loadI ty3 rfl) ?_)
    refine op_take rfl rfl (dj := 37) rfl g10 (OpV.t (v_neq rfl rfl) ?_)
    refine oV (v_pick_f rfl g10 rfl) ?_
    exact hJ9 _ () h _ (join_imp 6 rfl rfl (mod_cons (j := 43) rfl (fun _ _ h => h) mod_nil) (.cons .here .nil))
 ·
  refine rl_condM (j := 30) h rfl (fun g7 h => ?_) (fun g7 h => ?_)
  ·
   refine op_pass rfl (dj := 30) rfl g7 ?_
   refine op_pass rfl (dj := 30) rfl g7 ?_
   refine op_pass rfl (dj := 30) rfl g7 ?_
   refine op_pass rfl (dj := 30) rfl g7 ?_
   refine op_pass rfl (dj := 30) rfl g7 ?_
   refine oV (v_pick_t rfl g7 rfl) ?_
   exact hJ6 _ () h _ (join_imp 6 rfl rfl (mod_cons (j := 36) rfl (fun _ _ h => h) mod_nil) (.cons .here .nil))
  ·
   refine op_take rfl rfl (dj := 30) rfl g7 (OpV.t (v_move rfl) ?_)
   refine op_take rfl rfl (dj := 30) rfl g7 (OpV.t (v_nilCheck rfl) ?_)
   refine op_take rfl rfl (dj := 30) rfl g7 (OpV.t (v_fa rfl GXwk.f1 fd84_1) ?_)
   refine op_take rfl rfl (dj := 30) rfl g7 (t_loadC (R := isv ((a_w_.left - (1 : Int)))) ty3 rfl .here (fun _ _ h => h) ?_)
   refine op_take rfl rfl (dj := 30) rfl g7 (OpV.t (v_lss rfl rfl) ?_)
   refine oV (v_pick_f rfl g7 rfl) ?_
   exact hJ6 _ () h _ (join_imp 6 rfl rfl (mod_cons (j := 36) rfl (fun _ _ h => h) mod_nil) (.cons .here .nil))

theorem extend_walker_fields_w0 {extend_walker_field' : GXwk → GFld → GFld → Option (Bool × GXwk)} {extend_walker_extends' : GXwk → Int → Int → Option (Bool × GXwk)} {extend_walker_fields' : GXwk → GTyp → GTyp → Option (Bool × GXwk)} (h_extend_walker_field : extend_walker_field_C extend_walker_field') (h_extend_walker_extends : extend_walker_extends_C extend_walker_extends') (h_extend_walker_fields : extend_walker_fields_C extend_walker_fields') : ∀ {a_w_ : GXwk} {a_x : GTyp} {a_y : GTyp} {b_a_w_ : Nat} {r : Bool × GXwk}, extend_walker_fields_F extend_walker_field' extend_walker_extends' extend_walker_fields' a_w_ a_x a_y = some r → Ctr Tryd.prog 63 [ptrv b_a_w_ (Fld.id GXwk), isv (a_x), isv (a_y)] [boxE b_a_w_ (a_w_ : GXwk)] (fun R H => R = oneOf [isv (r.1)] ∧ H = [boxE b_a_w_ (r.2)]) := by
 intro a_w_ a_x a_y b_a_w_ r h
 unfold extend_walker_fields_F at h
 refine spec_intro Tryd.func63 rfl (by decide +kernel) (by rfl) fun w0 S0 hT => ?_
 refine wsr ?_
 refine oT (t_boxIC (y := a_x) rfl (fun _ _ h => h) ?_)
 refine oT (t_boxIC (y := a_y) rfl (fun _ _ h => h) ?_)
 refine oV (v_assign rfl) ?_
 refine rnf ?_
 refine wsr ?_
 refine oV (v_fi rfl GTyp.f4 fd58_4 rfl (z := a_x.fields)) ?_
 refine oV (v_loadI ty56 rfl) ?_
 refine oV (v_ln (l := a_x.fields) rfl (fun _ _ h => h) sl56) ?_
 refine oV (v_assign rfl) ?_
 refine rnf ?_
 refine w_seq ?_
 refine wsr ?_
 refine oV (v_fi rfl GTyp.f5 fd58_5 rfl (z := a_x.root)) ?_
 refine oV (v_loadI ty3 rfl) ?_
 refine oV (v_fi rfl GTyp.f5 fd58_5 rfl (z := a_y.root)) ?_
 refine oV (v_loadI ty3 rfl) ?_
 refine oV (v_neq rfl rfl) ?_
 refine oV (v_move rfl) ?_
 refine rl_j (ι := Bool) (γ := Unit) (fun q1 g1 => [(25, isv (q1))]) (fun q1 g1 => []) .nil h 6 rfl (fun q1 g1 h => ?_) (fun J2 h hJ2 => ?_)
 ·
  refine oV (v_move rfl) ?_
  refine rl_j (ι := Bool) (γ := Unit) (fun q4 g4 => [(37, isv (q4))]) (fun q4 g4 => []) .nil h 11 rfl (fun q4 g4 h => ?_) (fun J5 h hJ5 => ?_)
  ·
   refine rnf ?_
   refine w_condM h rfl (fun _ h => ?_) (fun _ h => ?_)
   ·
    refine wsr ?_
    refine oV (v_assign rfl) ?_
    refine rnf ?_
    refine w_ret ?_
    refine ret_nxt ?_
    refine ret_post (.tmp rfl .nil) (.cons .here .nil) ?_
    obtain rfl := Option.some.inj h
    exact ⟨rfl, rfl⟩
   ·
    refine wkf ?_
    refine w_seq ?_
    refine wsr ?_
    refine oV (v_fi rfl GTyp.f4 fd58_4 rfl (z := a_x.fields)) ?_
    refine oV (v_loadI ty56 rfl) ?_
    refine oV (v_ln (l := a_x.fields) rfl (fun _ _ h => h) sl56) ?_
    refine oV (v_move rfl) ?_
    refine rnf ?_
    refine w_block ?_
    refine w_lp (ι := Int × GXwk) (γ := Unit) (fun q10 g10 => [(41, isv (q10.1))]) (fun q10 g10 => [boxE b_a_w_ (q10.2 : GXwk)]) h () (mod_cons (j := 41) rfl (fun _ _ h => h) mod_nil) (.cons .here .nil) (fun L11 q10 g10 Q40 h hL11 eL11 rL11 => ?_)
    refine wsr ?_
    refine oV (v_lss rfl rfl) ?_
    refine rnf ?_
    refine w_seq ?_
    refine w_condM h rfl (fun _ h => ?_) (fun _ h => ?_)
    ·
     refine wkf ?_
     refine w_seq ?_
     refine w_block ?_
     refine wsr ?_
     refine oV (v_move rfl) ?_
     refine cal_inv h fun y26 hy26 h => ?_
     refine oV (v_ix (l := a_x.fields) rfl (fun _ _ h => h) rfl sl56 hy26) ?_
     refine oV (v_loadI ty69 rfl) ?_
     refine oT (t_alloc _ ze69 fun b27 => ?_)
     refine oV (v_assign rfl) ?_
     refine oT (t_storeC (y' := (y26 : GFld)) ty69 rfl rfl (fun _ _ h => h) .here rfl ?_)
     refine rl_upd (upd_imm 9 .here rfl) ?_
     refine rnf ?_
     refine w_seq ?_
     refine w_regionD (.v 0 (.v 1 (.v 2 (.v 3 (.v 4 (.v 5 (.v 6 (.t 7 (.v 8 .nil))))))))) moOrd (by kernel_rfl) ?_
     refine rd_v rfl (v_move rfl) ?_
     refine rd_v rfl (v_loadI ty69 rfl) ?_
     refine rd_v rfl (v_fi rfl GTyp.f4 fd58_4 rfl (z := a_y.fields)) ?_
     refine rd_v rfl (v_loadI ty56 rfl) ?_
     refine rd_v rfl (v_move rfl) ?_
     refine cal_inv h fun y28 hy28 h => ?_
     refine rd_v rfl (v_ix (l := a_y.fields) rfl (fun _ _ h => h) rfl sl56 hy28) ?_
     refine rd_v rfl (v_loadI ty69 rfl) ?_
     refine cal_inv h fun y29 hy29 h => ?_
     refine rd_t rfl rfl (t_call (h_extend_walker_field hy29) hT (.same rfl (.same rfl (.same rfl .nil))) (.cons .here .nil) (fun R H' hR => ?_))
     obtain ⟨rfl, rfl⟩ := hR
     refine rd_v rfl (v_not rfl) ?_
     refine rd_nil ?_
     refine fin_nxt ?_
     refine w_condM h rfl (fun _ h => ?_) (fun _ h => ?_)
     ·
      refine wsr ?_
      refine oV (v_assign rfl) ?_
      refine rnf ?_
      refine w_ret ?_
      refine ret_block ?_
      refine ret_nxt ?_
      refine rL11 _ ?_
      refine ret_block ?_
      refine ret_nxt ?_
      refine ret_post (.tmp rfl .nil) (.cons .here .nil) ?_
      obtain rfl := Option.some.inj h
      exact ⟨rfl, rfl⟩
     ·
      refine w_skip ?_
      refine fin_block ?_
      refine fin_nxt ?_
      refine w_region ?_
      refine ck_inv h fun q30 h => ?_
      refine oV (v_add rfl rfl q30) ?_
      refine oV (v_move rfl) ?_
      refine rl_nil ?_
      exact hL11 _ () h _ (join_imp 19 rfl rfl (mod_cons (j := 41) rfl (fun _ _ h => h) mod_nil) (.cons .here .nil))
    ·
     refine w_exit ?_
     refine exi_nxt ?_
     refine eL11 _ _ ?_
     refine exi_block ?_
     refine fin_nxt ?_
     refine w_seq ?_
     refine wsr ?_
     refine oV (v_move rfl) ?_
     refine oV (v_eql rfl rfl) ?_
     refine oV (v_move rfl) ?_
     refine rl_j (ι := Bool) (γ := Unit) (fun q31 g31 => [(64, isv (q31))]) (fun q31 g31 => []) .nil h 6 rfl (fun q31 g31 h => ?_) (fun J32 h hJ32 => ?_)
     ·
      refine rnf ?_
      refine w_condM h rfl (fun _ h => ?_) (fun _ h => ?_)
      ·
       refine wsr ?_
       refine oV (v_assign rfl) ?_
       refine rnf ?_
       refine w_ret ?_
       refine ret_nxt ?_
       refine ret_post (.tmp rfl .nil) (.cons .here .nil) ?_
       obtain rfl := Option.some.inj h
       exact ⟨rfl, rfl⟩
      ·
       refine wkf ?_
       refine wsr ?_
       refine oV (v_fi rfl GTyp.f4 fd58_4 rfl (z := a_y.fields)) ?_
       refine oV (v_loadI ty56 rfl) ?_
       refine oV (v_move rfl) ?_
       refine cal_inv h fun y34 hy34 h => ?_
       refine oV (v_ix (l := a_y.fields) rfl (fun _ _ h => h) rfl sl56 hy34) ?_
       refine oV (v_fi rfl GFld.f5 fd69_5 rfl (z := y34.group)) ?_
       refine oV (v_loadI ty3 rfl) ?_
       refine oV (v_assign rfl) ?_
       refine rnf ?_
       refine wsr ?_
       refine oV (v_move rfl) ?_
       refine oV (v_eql rfl rfl) ?_
       refine oV (v_move rfl) ?_
       refine rl_j (ι := Bool) (γ := Unit) (fun q35 g35 => [(83, isv (q35))]) (fun q35 g35 => []) .nil h 10 rfl (fun q35 g35 h => ?_) (fun J36 h hJ36 => ?_)
       ·
        refine oV (v_assign rfl) ?_
        refine rnf ?_
        refine w_ret ?_
        refine ret_post (.tmp rfl .nil) (.cons .here .nil) ?_
        obtain rfl := Option.some.inj h
        exact ⟨rfl, rfl⟩
       ·
        refine rl_condM (j := 73) h rfl (fun g37 h => ?_) (fun g37 h => ?_)
        ·
         refine op_pass rfl (dj := 73) rfl g37 ?_
         refine op_pass rfl (dj := 73) rfl g37 ?_
         refine op_pass rfl (dj := 73) rfl g37 ?_
         refine op_pass rfl (dj := 73) rfl g37 ?_
         refine op_pass rfl (dj := 73) rfl g37 ?_
         refine op_pass rfl (dj := 73) rfl g37 ?_
         refine op_pass rfl (dj := 73) rfl g37 ?_
         refine op_pass rfl (dj := 73) rfl g37 ?_
         refine op_pass rfl (dj := 73) rfl g37 ?_
         refine oV (v_pick_t rfl g37 rfl) ?_
         exact hJ36 _ () h _ (join_imp 10 rfl rfl (mod_cons (j := 83) rfl (fun _ _ h => h) mod_nil) (.cons .here .nil))
        ·
         refine op_take rfl rfl (dj := 73) rfl g37 (OpV.t (v_move rfl) ?_)
         refine op_take rfl rfl (dj := 73) rfl g37 (OpV.t (v_fi rfl GTyp.f4 fd58_4 rfl (z := a_x.fields)) ?_)
         refine op_take rfl rfl (dj := 73) rfl g37 (OpV.t (v_loadI ty56 rfl) ?_)
         refine op_take rfl rfl (dj := 73) rfl g37 (OpV.t (v_move rfl) ?_)
         refine ck_inv h fun q38 h => ?_
         refine op_take rfl rfl (dj := 73) rfl g37 (OpV.t (v_sub rfl rfl q38) ?_)
         refine cal_inv h fun y39 hy39 h => ?_
         refine op_take rfl rfl (dj := 73) rfl g37 (OpV.t (v_ix (l := a_x.fields) rfl (fun _ _ h => h) rfl sl56 hy39) ?_)
         refine op_take rfl rfl (dj := 73) rfl g37 (OpV.t (v_fi rfl GFld.f5 fd69_5 rfl (z := y39.group)) ?_)
         refine op_take rfl rfl (dj := 73) rfl g37 (OpV.t (v_loadI ty3 rfl) ?_)
         refine op_take rfl rfl (dj := 73) rfl g37 (OpV.t (v_neq rfl rfl) ?_)
         refine oV (v_pick_f rfl g37 rfl) ?_
         exact hJ36 _ () h _ (join_imp 10 rfl rfl (mod_cons (j := 83) rfl (fun _ _ h => h) mod_nil) (.cons .here .nil))
     ·
      refine rl_condM (j := 58) h rfl (fun g33 h => ?_) (fun g33 h => ?_)
      ·
       refine op_pass rfl (dj := 58) rfl g33 ?_
       refine op_pass rfl (dj := 58) rfl g33 ?_
       refine op_pass rfl (dj := 58) rfl g33 ?_
       refine op_pass rfl (dj := 58) rfl g33 ?_
       refine op_pass rfl (dj := 58) rfl g33 ?_
       refine oV (v_pick_t rfl g33 rfl) ?_
       exact hJ32 _ () h _ (join_imp 6 rfl rfl (mod_cons (j := 64) rfl (fun _ _ h => h) mod_nil) (.cons .here .nil))
      ·
       refine op_take rfl rfl (dj := 58) rfl g33 (OpV.t (v_fi rfl GTyp.f4 fd58_4 rfl (z := a_y.fields)) ?_)
       refine op_take rfl rfl (dj := 58) rfl g33 (OpV.t (v_loadI ty56 rfl) ?_)
       refine op_take rfl rfl (dj := 58) rfl g33 (OpV.t (v_ln (l := a_y.fields) rfl (fun _ _ h => h) sl56) ?_)
       refine op_take rfl rfl (dj := 58) rfl g33 (OpV.t (v_move rfl) ?_)
       refine op_take rfl rfl (dj := 58) rfl g33 (OpV.t (v_eql rfl rfl) ?_)
       refine oV (v_pick_f rfl g33 rfl) ?_
       exact hJ32 _ () h _ (join_imp 6 rfl rfl (mod_cons (j := 64) rfl (fun _ _ h => h) mod_nil) (.cons .here .nil))
  ·
   refine rl_condM (j := 26) h rfl (fun g6 h => ?_) (fun g6 h => ?_)
   ·
    refine op_pass rfl (dj := 26) rfl g6 ?_
    refine op_pass rfl (dj := 26) rfl g6 ?_
    refine op_pass rfl (dj := 26) rfl g6 ?_
    refine op_pass rfl (dj := 26) rfl g6 ?_
    refine op_passU rfl (dj := 30) rfl ?_
    refine op_passU rfl (dj := 30) rfl ?_
    refine op_passU rfl (dj := 30) rfl ?_
    refine op_passU rfl (dj := 30) rfl ?_
    refine op_passU rfl (dj := 30) rfl ?_
    refine op_pass rfl (dj := 26) rfl g6 ?_
    refine oV (v_pick_t rfl g6 rfl) ?_
    exact hJ5 _ () h _ (join_imp 11 rfl rfl (mod_cons (j := 37) rfl (fun _ _ h => h) mod_nil) (.cons .here .nil))
   ·
    refine op_take rfl rfl (dj := 26) rfl g6 (OpV.t (v_fi rfl GTyp.f6 fd58_6 rfl (z := a_x.more)) ?_)
    refine op_take rfl rfl (dj := 26) rfl g6 (OpV.t (v_loadI ty4 rfl) ?_)
    refine op_take rfl rfl (dj := 26) rfl g6 (OpV.t (v_not rfl) ?_)
    refine op_take rfl rfl (dj := 26) rfl g6 (OpV.t (v_move rfl) ?_)
    refine rl_j (ι := Bool) (γ := Unit) (fun q7 g7 => [(36, isv (q7))]) (fun q7 g7 => []) .nil h 6 rfl (fun q7 g7 h => ?_) (fun J8 h hJ8 => ?_)
    ·
     refine oV (v_pick_f rfl g6 rfl) ?_
     exact hJ5 _ () h _ (join_imp 6 rfl rfl (mod_cons (j := 37) rfl (fun _ _ h => h) mod_nil) (.cons .here .nil))
    ·
     refine rl_condM (j := 30) h rfl (fun g9 h => ?_) (fun g9 h => ?_)
     ·
      refine op_take rfl rfl (dj := 30) rfl g9 (OpV.t (v_fi rfl GTyp.f4 fd58_4 rfl (z := a_y.fields)) ?_)
      refine op_take rfl rfl (dj := 30) rfl g9 (OpV.t (v_loadI ty56 rfl) ?_)
      refine op_take rfl rfl (dj := 30) rfl g9 (OpV.t (v_ln (l := a_y.fields) rfl (fun _ _ h => h) sl56) ?_)
      refine op_take rfl rfl (dj := 30) rfl g9 (OpV.t (v_move rfl) ?_)
      refine op_take rfl rfl (dj := 30) rfl g9 (OpV.t (v_gtr rfl rfl) ?_)
      refine op_take rfl rfl (dj := 26) rfl g6 (OpV.t (v_pick_t rfl g9 rfl) ?_)
      exact hJ8 _ () h _ (join_imp 6 rfl rfl (mod_cons (j := 36) rfl (fun _ _ h => h) mod_nil) (.cons .here .nil))
     ·
      refine op_pass rfl (dj := 30) rfl g9 ?_
      refine op_pass rfl (dj := 30) rfl g9 ?_
      refine op_pass rfl (dj := 30) rfl g9 ?_
      refine op_pass rfl (dj := 30) rfl g9 ?_
      refine op_pass rfl (dj := 30) rfl g9 ?_
      refine op_take rfl rfl (dj := 26) rfl g6 (OpV.t (v_pick_f rfl g9 rfl) ?_)
      exact hJ8 _ () h _ (join_imp 6 rfl rfl (mod_cons (j := 36) rfl (fun _ _ h => h) mod_nil) (.cons .here .nil))
 ·
  refine rl_condM (j := 19) h rfl (fun g3 h => ?_) (fun g3 h => ?_)
  ·
   refine op_pass rfl (dj := 19) rfl g3 ?_
   refine op_pass rfl (dj := 19) rfl g3 ?_
   refine op_pass rfl (dj := 19) rfl g3 ?_
   refine op_pass rfl (dj := 19) rfl g3 ?_
   refine op_pass rfl (dj := 19) rfl g3 ?_
   refine oV (v_pick_t rfl g3 rfl) ?_
   exact hJ2 _ () h _ (join_imp 6 rfl rfl (mod_cons (j := 25) rfl (fun _ _ h => h) mod_nil) (.cons .here .nil))
  ·
   refine op_take rfl rfl (dj := 19) rfl g3 (OpV.t (v_fi rfl GTyp.f4 fd58_4 rfl (z := a_y.fields)) ?_)
   refine op_take rfl rfl (dj := 19) rfl g3 (OpV.t (v_loadI ty56 rfl) ?_)
   refine op_take rfl rfl (dj := 19) rfl g3 (OpV.t (v_ln (l := a_y.fields) rfl (fun _ _ h => h) sl56) ?_)
   refine op_take rfl rfl (dj := 19) rfl g3 (OpV.t (v_move rfl) ?_)
   refine op_take rfl rfl (dj := 19) rfl g3 (OpV.t (v_lss rfl rfl) ?_)
   refine oV (v_pick_f rfl g3 rfl) ?_
   exact hJ2 _ () h _ (join_imp 6 rfl rfl (mod_cons (j := 25) rfl (fun _ _ h => h) mod_nil) (.cons .here .nil))

theorem extend_walker_field_grp_w : ∀ n, extend_walker_field_C (extend_walker_field n) ∧ extend_walker_extends_C (extend_walker_extends n) ∧ extend_walker_fields_C (extend_walker_fields n)
 | 0 => ⟨fun h => (by cases h), fun h => (by cases h), fun h => (by cases h)⟩
 | n + 1 => by
  obtain ⟨h0, h1, h2⟩ := extend_walker_field_grp_w n
  exact ⟨extend_walker_field_w0 h0 h1 h2, extend_walker_extends_w0 h0 h1 h2, extend_walker_fields_w0 h0 h1 h2⟩
theorem extend_walker_field_w (n : Nat) : extend_walker_field_C (extend_walker_field n) := (extend_walker_field_grp_w n).1
theorem extend_walker_extends_w (n : Nat) : extend_walker_extends_C (extend_walker_extends n) := (extend_walker_field_grp_w n).2.1
theorem extend_walker_fields_w (n : Nat) : extend_walker_fields_C (extend_walker_fields n) := (extend_walker_field_grp_w n).2.2

theorem extend_Type_w : ∀ {a_a : GTab} {a_i : Int} {a_b : GTab} {a_k : Int} {r : Bool}, extend_Type a_a a_i a_b a_k = some r → Ctr Tryd.prog 16 [isv (a_a), isv (a_i), isv (a_b), isv (a_k)] [] (fun R H => R = oneOf [isv (r)] ∧ H = []) := by
 intro a_a a_i a_b a_k r h
 unfold extend_Type at h
 refine spec_intro Tryd.func16 rfl (by decide +kernel) (by rfl) fun w0 S0 hT => ?_
 refine wsr ?_
 refine oT (t_boxIC (y := a_a) rfl (fun _ _ h => h) ?_)
 refine oT (t_boxIC (y := a_b) rfl (fun _ _ h => h) ?_)
 refine oV (v_assign rfl) ?_
 refine rnf ?_
 refine wsr ?_
 refine oV (v_loadI ty26 rfl) ?_
 refine oV (v_loadI ty26 rfl) ?_
 refine oV (v_build (z := (GXsd.mk a_a a_b)) rfl bu82 ze82 (.cons GXsd.f0 fd82_0 rfl (fun _ _ h => h) (.cons GXsd.f1 fd82_1 rfl (fun _ _ h => h) .nil))) ?_
 refine oV (v_build (z := (GXwk.mk (GXsd.mk a_a a_b) (300 : Int))) rfl bu84 ze84 (.cons GXwk.f0 fd84_0 rfl (fun _ _ h => h) (.cons GXwk.f1 fd84_1 rfl (fun _ _ h => h) .nil))) ?_
 refine oT (t_boxC (y := (GXwk.mk (GXsd.mk a_a a_b) (300 : Int))) rfl (fun _ _ h => h) fun b1 => ?_)
 refine oV (v_assign rfl) ?_
 refine rnf ?_
 refine wsr ?_
 refine oV (v_move rfl) ?_
 refine oV (v_move rfl) ?_
 refine oV (v_move rfl) ?_
 refine cal_inv h fun y2 hy2 h => ?_
 refine oT (t_call (extend_walker_extends_w fuel hy2) hT (.same rfl (.same rfl (.same rfl .nil))) (.cons .here .nil) (fun R H' hR => ?_))
 obtain ⟨rfl, rfl⟩ := hR
 refine oV (v_assign rfl) ?_
 refine rnf ?_
 refine w_ret ?_
 refine ret_post (.tmp rfl .nil) .nil ?_
 obtain rfl := Option.some.inj h
 exact ⟨rfl, rfl⟩

end Go.Proofs.YtajbipkppngccaaDoor


namespace Go.Proofs.YtajbipkppngccaaDoor
open Go.Sy
set_option maxRecDepth 4000
theorem extend_May_w : ∀ {a_a : GTab} {a_b : GTab} {r : Int × Int}, extend_May a_a a_b = some r → Ctr Tryd.prog 14 [isv (a_a), isv (a_b)] [] (fun R H => R = oneOf [isv (r.1), isv (r.2)] ∧ H = []) := by
 intro a_a a_b r h
 unfold extend_May at h
 refine spec_intro Tryd.func14 rfl (by decide +kernel) (by rfl) fun w0 S0 hT => ?_
 refine wsr ?_
 refine oT (t_boxIC (y := a_a) rfl (fun _ _ h => h) ?_)
 refine oT (t_boxIC (y := a_b) rfl (fun _ _ h => h) ?_)
 refine oV (v_assign rfl) ?_
 refine oV (v_assign rfl) ?_
 refine rnf ?_
 refine w_seq ?_
 refine wsr ?_
 refine oV (v_fi rfl GTab.f0 fd26_0 rfl (z := a_a.name)) ?_
 refine oV (v_loadI ty9 rfl) ?_
 refine oV (v_fi rfl GTab.f0 fd26_0 rfl (z := a_b.name)) ?_
 refine oV (v_loadI ty9 rfl) ?_
 refine oV (v_neA eq9 rfl rfl) ?_
 refine rnf ?_
 refine w_condM h rfl (fun _ h => ?_) (fun _ h => ?_)
 ·
  refine wsr ?_
  refine oV (v_assign rfl) ?_
  refine oV (v_assign rfl) ?_
  refine rnf ?_
  refine w_ret ?_
  refine ret_nxt ?_
  refine ret_post (.tmp rfl (.tmp rfl .nil)) .nil ?_
  obtain rfl := Option.some.inj h
  exact ⟨rfl, rfl⟩
 ·
  refine wkf ?_
  refine w_seq ?_
  refine wsr ?_
  refine oV (v_fi rfl GTab.f1 fd26_1 rfl (z := a_a.names)) ?_
  refine oV (v_loadI ty22 rfl) ?_
  refine oV (v_ln (l := a_a.names) rfl (fun _ _ h => h) sl22) ?_
  refine oV (v_move rfl) ?_
  refine rnf ?_
  refine w_block ?_
  refine w_lp (ι := Int) (γ := Unit) (fun q1 g1 => [(16, isv (q1))]) (fun q1 g1 => []) h () (mod_cons (j := 16) rfl (fun _ _ h => h) mod_nil) .nil (fun L2 q1 g1 Q19 h hL2 eL2 rL2 => ?_)
  refine wsr ?_
  refine oV (v_lss rfl rfl) ?_
  refine rnf ?_
  refine w_seq ?_
  refine w_condM h rfl (fun _ h => ?_) (fun _ h => ?_)
  ·
   refine wkf ?_
   refine w_seq ?_
   refine w_block ?_
   refine wsr ?_
   refine oV (v_move rfl) ?_
   refine cal_inv h fun y11 hy11 h => ?_
   refine oV (v_ix (l := a_a.names) rfl (fun _ _ h => h) rfl sl22 hy11) ?_
   refine oV (v_loadI ty9 rfl) ?_
   refine oV (v_assign rfl) ?_
   refine oV (v_assign rfl) ?_
   refine rnf ?_
   refine w_seq ?_
   refine w_regionD (.v 0 (.v 1 (.v 2 (.v 3 (.v 4 (.v 5 (.v 6 (.v 7 (.v 8 (.v 9 (.v 10 (.v 11 (.v 12 (.v 13 (.v 14 (.t 15 (.t 16 (.v 17 (.v 18 .nil))))))))))))))))))) moOrd (by kernel_rfl) ?_
   refine rd_v rfl (v_move rfl) ?_
   refine rd_v rfl (v_fi rfl GTab.f2 fd26_2 rfl (z := a_a.roots)) ?_
   refine rd_v rfl (v_loadI ty23 rfl) ?_
   refine rd_v rfl (v_ln (l := a_a.roots) rfl (fun _ _ h => h) sl23) ?_
   refine rd_v rfl (v_geq rfl rfl) ?_
   refine rd_v rfl (v_move rfl) ?_
   refine rd_j (ι := Bool) (γ := Unit) (fun q12 g12 => [(39, isv (q12))]) (fun q12 g12 => []) .nil h 13 rfl (fun q12 g12 h => ?_) (fun J13 h hJ13 => ?_)
   ·
    refine rd_nil ?_
    refine fin_nxt ?_
    refine w_condM h rfl (fun _ h => ?_) (fun _ h => ?_)
    ·
     refine wsr ?_
     refine oV (v_move rfl) ?_
     refine oV (v_assign rfl) ?_
     refine oV (v_assign rfl) ?_
     refine rnf ?_
     refine w_ret ?_
     refine ret_block ?_
     refine ret_nxt ?_
     refine rL2 _ ?_
     refine ret_block ?_
     refine ret_nxt ?_
     refine ret_post (.tmp rfl (.tmp rfl .nil)) .nil ?_
     obtain rfl := Option.some.inj h
     exact ⟨rfl, rfl⟩
    ·
     refine w_skip ?_
     refine fin_block ?_
     refine fin_nxt ?_
     refine w_region ?_
     refine ck_inv h fun q18 h => ?_
     refine oV (v_add rfl rfl q18) ?_
     refine oV (v_move rfl) ?_
     refine rl_nil ?_
     exact hL2 _ () h _ (join_imp 16 rfl rfl (mod_cons (j := 16) rfl (fun _ _ h => h) mod_nil) .nil)
   ·
    refine rd_condM (j := 26) h rfl (fun g14 h => ?_) (fun g14 h => ?_)
    ·
     refine rd_passV rfl rfl (dj := 26) rfl g14 ?_
     refine rd_passV rfl rfl (dj := 26) rfl g14 ?_
     refine rd_passV rfl rfl (dj := 26) rfl g14 ?_
     refine rd_passV rfl rfl (dj := 26) rfl g14 ?_
     refine rd_passV rfl rfl (dj := 26) rfl g14 ?_
     refine rd_passV rfl rfl (dj := 26) rfl g14 ?_
     refine rd_passV rfl rfl (dj := 26) rfl g14 ?_
     refine rd_passV rfl rfl (dj := 26) rfl g14 ?_
     refine rd_passV rfl rfl (dj := 26) rfl g14 ?_
     refine rd_passT rfl rfl (dj := 26) rfl g14 ?_
     refine rd_passT rfl rfl (dj := 26) rfl g14 ?_
     refine rd_passV rfl rfl (dj := 26) rfl g14 ?_
     refine rd_v rfl (v_pick_t rfl g14 rfl) ?_
     exact hJ13 _ () h _ (join_imp 13 rfl rfl (mod_cons (j := 39) rfl (fun _ _ h => h) mod_nil) .nil)
    ·
     refine rd_vt rfl rfl (dj := 26) rfl g14 (v_loadI ty26 rfl) ?_
     refine rd_vt rfl rfl (dj := 26) rfl g14 (v_fi rfl GTab.f2 fd26_2 rfl (z := a_a.roots)) ?_
     refine rd_vt rfl rfl (dj := 26) rfl g14 (v_loadI ty23 rfl) ?_
     refine rd_vt rfl rfl (dj := 26) rfl g14 (v_move rfl) ?_
     refine cal_inv h fun y15 hy15 h => ?_
     refine rd_vt rfl rfl (dj := 26) rfl g14 (v_ix (l := a_a.roots) rfl (fun _ _ h => h) rfl sl23 hy15) ?_
     refine rd_vt rfl rfl (dj := 26) rfl g14 (v_loadI ty3 rfl) ?_
     refine rd_vt rfl rfl (dj := 26) rfl g14 (v_loadI ty26 rfl) ?_
     refine rd_vt rfl rfl (dj := 26) rfl g14 (v_loadI ty26 rfl) ?_
     refine rd_vt rfl rfl (dj := 26) rfl g14 (v_move rfl) ?_
     refine cal_inv h fun y16 hy16 h => ?_
     refine rd_tt rfl rfl rfl (dj := 26) rfl g14 (t_call (table_Find_w hy16) hT (.same rfl (.same rfl .nil)) .nil (fun R H' hR => ?_))
     obtain ⟨rfl, rfl⟩ := hR
     refine cal_inv h fun y17 hy17 h => ?_
     refine rd_tt rfl rfl rfl (dj := 26) rfl g14 (t_call (extend_Type_w hy17) hT (.same rfl (.same rfl (.same rfl (.same rfl .nil)))) .nil (fun R H' hR => ?_))
     obtain ⟨rfl, rfl⟩ := hR
     refine rd_vt rfl rfl (dj := 26) rfl g14 (v_not rfl) ?_
     refine rd_v rfl (v_pick_f rfl g14 rfl) ?_
     exact hJ13 _ () h _ (join_imp 13 rfl rfl (mod_cons (j := 39) rfl (fun _ _ h => h) mod_nil) .nil)
  ·
   refine w_exit ?_
   refine exi_nxt ?_
   refine eL2 _ _ ?_
   refine exi_block ?_
   refine fin_nxt ?_
   refine wsr ?_
   refine oV (v_assign rfl) ?_
   refine oV (v_assign rfl) ?_
   refine rnf ?_
   refine w_ret ?_
   refine ret_post (.tmp rfl (.tmp rfl .nil)) .nil ?_
   obtain rfl := Option.some.inj h
   exact ⟨rfl, rfl⟩


theorem law21_awake_w : ∀  {r : Bool}, law21_awake  = some r → Ctr Tryd.prog 13 [] [] (fun R H => R = oneOf [isv (r)] ∧ H = []) := by
 intro  r h
 unfold law21_awake at h
 refine spec_intro Tryd.func13 rfl (by decide +kernel) (by rfl) fun w0 S0 hT => ?_
 refine wsr ?_
 refine oV (v_assign rfl) ?_
 refine rnf ?_
 refine wsr ?_
 refine cal_inv h fun y1 hy1 h => ?_
 refine oT (t_call (oghamplay_Table_w hy1) hT (.same rfl .nil) .nil (fun R H' hR => ?_))
 obtain ⟨rfl, rfl⟩ := hR
 refine oV (v_move rfl) ?_
 refine oV (v_extract rfl rfl) ?_
 refine oV (v_extract rfl rfl) ?_
 refine oT (t_alloc _ ze26 fun b2 => ?_)
 refine oT (t_storeC (y' := (y1.1 : GTab)) ty26 rfl rfl (fun _ _ h => h) .here rfl ?_)
 refine rl_upd (upd_imm 1 .here rfl) ?_
 refine oV (v_assign rfl) ?_
 refine rnf ?_
 refine wsr ?_
 refine cal_inv h fun y3 hy3 h => ?_
 refine oT (t_call (oghamplay_Table_w hy3) hT (.same rfl .nil) .nil (fun R H' hR => ?_))
 obtain ⟨rfl, rfl⟩ := hR
 refine oV (v_move rfl) ?_
 refine oV (v_extract rfl rfl) ?_
 refine oV (v_extract rfl rfl) ?_
 refine oT (t_alloc _ ze26 fun b4 => ?_)
 refine oT (t_storeC (y' := (y3.1 : GTab)) ty26 rfl rfl (fun _ _ h => h) .here rfl ?_)
 refine rl_upd (upd_imm 3 .here rfl) ?_
 refine oV (v_assign rfl) ?_
 refine rnf ?_
 refine wsr ?_
 refine oV (v_loadI ty26 rfl) ?_
 refine oV (v_loadI ty26 rfl) ?_
 refine cal_inv h fun y5 hy5 h => ?_
 refine oT (t_call (extend_May_w hy5) hT (.same rfl (.same rfl .nil)) .nil (fun R H' hR => ?_))
 obtain ⟨rfl, rfl⟩ := hR
 refine oV (v_move rfl) ?_
 refine oV (v_extract rfl rfl) ?_
 refine oV (v_extract rfl rfl) ?_
 refine oV (v_assign rfl) ?_
 refine oV (v_assign rfl) ?_
 refine rnf ?_
 refine wsr ?_
 refine oV (v_loadI ty26 rfl) ?_
 refine oV (v_loadI ty26 rfl) ?_
 refine cal_inv h fun y6 hy6 h => ?_
 refine oT (t_call (extend_May_w hy6) hT (.same rfl (.same rfl .nil)) .nil (fun R H' hR => ?_))
 obtain ⟨rfl, rfl⟩ := hR
 refine oV (v_move rfl) ?_
 refine oV (v_extract rfl rfl) ?_
 refine oV (v_extract rfl rfl) ?_
 refine oV (v_assign rfl) ?_
 refine oV (v_assign rfl) ?_
 refine rnf ?_
 refine wsr ?_
 refine oV (v_move rfl) ?_
 refine oV (v_move rfl) ?_
 refine rl_j (ι := Bool) (γ := Unit) (fun q7 g7 => [(32, isv (q7))]) (fun q7 g7 => []) .nil h 2 rfl (fun q7 g7 h => ?_) (fun J8 h hJ8 => ?_)
 ·
  refine oV (v_move rfl) ?_
  refine rl_j (ι := Bool) (γ := Unit) (fun q10 g10 => [(36, isv (q10))]) (fun q10 g10 => []) .nil h 3 rfl (fun q10 g10 h => ?_) (fun J11 h hJ11 => ?_)
  ·
   refine oV (v_move rfl) ?_
   refine rl_j (ι := Bool) (γ := Unit) (fun q13 g13 => [(40, isv (q13))]) (fun q13 g13 => []) .nil h 3 rfl (fun q13 g13 h => ?_) (fun J14 h hJ14 => ?_)
   ·
    refine oV (v_move rfl) ?_
    refine rl_j (ι := Bool) (γ := Unit) (fun q16 g16 => [(45, isv (q16))]) (fun q16 g16 => []) .nil h 4 rfl (fun q16 g16 h => ?_) (fun J17 h hJ17 => ?_)
    ·
     refine oV (v_assign rfl) ?_
     refine rnf ?_
     refine w_ret ?_
     refine ret_post (.tmp rfl .nil) .nil ?_
     obtain rfl := Option.some.inj h
     exact ⟨rfl, rfl⟩
    ·
     refine rl_condM (j := 41) h rfl (fun g18 h => ?_) (fun g18 h => ?_)
     ·
      refine op_take rfl rfl (dj := 41) rfl g18 (OpV.t (v_loadI ty26 rfl) ?_)
      refine op_take rfl rfl (dj := 41) rfl g18 (OpV.t (v_loadI ty26 rfl) ?_)
      refine cal_inv h fun y19 hy19 h => ?_
      refine op_take rfl rfl (dj := 41) rfl g18 (t_call (extend_Type_w hy19) hT (.same rfl (.same rfl (.same rfl (.same rfl .nil)))) .nil (fun R H' hR => ?_))
      obtain ⟨rfl, rfl⟩ := hR
      refine oV (v_pick_t rfl g18 rfl) ?_
      exact hJ17 _ () h _ (join_imp 4 rfl rfl (mod_cons (j := 45) rfl (fun _ _ h => h) mod_nil) .nil)
     ·
      refine op_pass rfl (dj := 41) rfl g18 ?_
      refine op_pass rfl (dj := 41) rfl g18 ?_
      refine op_pass rfl (dj := 41) rfl g18 ?_
      refine oV (v_pick_f rfl g18 rfl) ?_
      exact hJ17 _ () h _ (join_imp 4 rfl rfl (mod_cons (j := 45) rfl (fun _ _ h => h) mod_nil) .nil)
   ·
    refine rl_condM (j := 37) h rfl (fun g15 h => ?_) (fun g15 h => ?_)
    ·
     refine op_take rfl rfl (dj := 37) rfl g15 (OpV.t (v_move rfl) ?_)
     refine op_take rfl rfl (dj := 37) rfl g15 (OpV.t (v_eql rfl rfl) ?_)
     refine oV (v_pick_t rfl g15 rfl) ?_
     exact hJ14 _ () h _ (join_imp 3 rfl rfl (mod_cons (j := 40) rfl (fun _ _ h => h) mod_nil) .nil)
    ·
     refine op_pass rfl (dj := 37) rfl g15 ?_
     refine op_pass rfl (dj := 37) rfl g15 ?_
     refine oV (v_pick_f rfl g15 rfl) ?_
     exact hJ14 _ () h _ (join_imp 3 rfl rfl (mod_cons (j := 40) rfl (fun _ _ h => h) mod_nil) .nil)
  ·
   refine rl_condM (j := 33) h rfl (fun g12 h => ?_) (fun g12 h => ?_)
   ·
    refine op_take rfl rfl (dj := 33) rfl g12 (OpV.t (v_move rfl) ?_)
    refine op_take rfl rfl (dj := 33) rfl g12 (OpV.t (v_eql rfl rfl) ?_)
    refine oV (v_pick_t rfl g12 rfl) ?_
    exact hJ11 _ () h _ (join_imp 3 rfl rfl (mod_cons (j := 36) rfl (fun _ _ h => h) mod_nil) .nil)
   ·
    refine op_pass rfl (dj := 33) rfl g12 ?_
    refine op_pass rfl (dj := 33) rfl g12 ?_
    refine oV (v_pick_f rfl g12 rfl) ?_
    exact hJ11 _ () h _ (join_imp 3 rfl rfl (mod_cons (j := 36) rfl (fun _ _ h => h) mod_nil) .nil)
 ·
  refine rl_condM (j := 30) h rfl (fun g9 h => ?_) (fun g9 h => ?_)
  ·
   refine op_take rfl rfl (dj := 30) rfl g9 (OpV.t (v_move rfl) ?_)
   refine oV (v_pick_t rfl g9 rfl) ?_
   exact hJ8 _ () h _ (join_imp 2 rfl rfl (mod_cons (j := 32) rfl (fun _ _ h => h) mod_nil) .nil)
  ·
   refine op_pass rfl (dj := 30) rfl g9 ?_
   refine oV (v_pick_f rfl g9 rfl) ?_
   exact hJ8 _ () h _ (join_imp 2 rfl rfl (mod_cons (j := 32) rfl (fun _ _ h => h) mod_nil) .nil)


def h_Digits_C (f' : UInt64 → Option (Str)) : Prop :=
 ∀ {a_v : UInt64} {r : Str}, f' a_v = some r → Ctr Tryd.prog 21 [isv (a_v)] [] (fun R H => R = oneOf [isv (r)] ∧ H = [])
theorem h_Digits_w0 {h_Digits' : UInt64 → Option (Str)} (h_h_Digits : h_Digits_C h_Digits') : ∀ {a_v : UInt64} {r : Str}, h_Digits_F h_Digits' a_v = some r → Ctr Tryd.prog 21 [isv (a_v)] [] (fun R H => R = oneOf [isv (r)] ∧ H = []) := by
 intro a_v r h
 unfold h_Digits_F at h
 refine spec_intro Tryd.func21 rfl (by decide +kernel) (by rfl) fun w0 S0 hT => ?_
 refine wsr ?_
 refine oV (v_assign rfl) ?_
 refine rnf ?_
 refine w_seq ?_
 refine wsr ?_
 refine oV (v_move rfl) ?_
 refine oV (v_lss64 rfl rfl) ?_
 refine rnf ?_
 refine w_condM h rfl (fun _ h => ?_) (fun _ h => ?_)
 ·
  refine wsr ?_
  refine oV (v_move rfl) ?_
  refine oV (v_add64 rfl rfl) ?_
  refine oV (v_u64u8 Tryd.underlying39 Tryd.underlying5 rfl) ?_
  refine oT (t_buildSlice (l := ([((48 : UInt64) + a_v).toUInt8] : (List UInt8))) el63 (.cons rfl (fun _ _ h => h) .nil) rfl rfl ?_)
  refine oV (v_bs (l := ([((48 : UInt64) + a_v).toUInt8] : (List UInt8))) Tryd.underlying63 Tryd.underlying5 Tryd.underlying9 rfl appv_isv) ?_
  refine oV (v_assign rfl) ?_
  refine rnf ?_
  refine w_ret ?_
  refine ret_nxt ?_
  refine ret_post (.tmp rfl .nil) .nil ?_
  obtain rfl := Option.some.inj h
  exact ⟨rfl, rfl⟩
 ·
  refine wkf ?_
  refine w_seq ?_
  refine w_J (ι := Str) (γ := Unit) (fun q2 g2 => [(2, isv (q2))]) (fun q2 g2 => []) .nil h (fun q2 g2 h => ?_) (fun J3 h hJ3 => ?_)
  ·
   refine w_ret ?_
   refine ret_post (.tmp rfl .nil) .nil ?_
   obtain rfl := Option.some.inj h
   exact ⟨rfl, rfl⟩
  ·
   refine w_regionD (.v 0 (.v 1 (.v 3 (.v 4 (.v 5 (.v 6 (.alt 2 (.t 7 (.v 8 (.v 9 (.v 10 .nil)))) (.t 7 (.v 8 (.t 2 (.v 9 (.v 10 .nil)))))))))))) moOrd (by kernel_rfl) ?_
   refine rd_v rfl (v_move rfl) ?_
   refine asr_inv h fun q4 h => ?_
   refine rd_v rfl (v_quo64 rfl rfl q4) ?_
   refine rd_v rfl (v_move rfl) ?_
   refine asr_inv h fun q5 h => ?_
   refine rd_v rfl (v_rem64 rfl rfl q5) ?_
   refine rd_v rfl (v_add64 rfl rfl) ?_
   refine rd_v rfl (v_u64u8 Tryd.underlying39 Tryd.underlying5 rfl) ?_
   refine cal_inv h fun y6 hy6 h => ?_
   refine asr_inv h fun q8 h => ?_
   refine rd_two ?_ ?_
   ·
    refine rd_t rfl rfl (t_call (h_h_Digits hy6) hT (.same rfl .nil) .nil (fun R H' hR => ?_))
    obtain ⟨rfl, rfl⟩ := hR
    refine rd_t rfl rfl (t_buildSlice (l := ([((48 : UInt64) + (a_v % (10 : UInt64))).toUInt8] : (List UInt8))) el63 (.cons rfl (fun _ _ h => h) .nil) rfl rfl ?_)
    refine rd_v rfl (v_bs (l := ([((48 : UInt64) + (a_v % (10 : UInt64))).toUInt8] : (List UInt8))) Tryd.underlying63 Tryd.underlying5 Tryd.underlying9 rfl appv_isv) ?_
    refine rd_v rfl (v_cat rfl rfl q8) ?_
    refine rd_v rfl (v_assign rfl) ?_
    refine rd_nil ?_
    exact hJ3 _ () h _ (join_imp 11 rfl rfl (mod_cons (j := 2) rfl (fun _ _ h => h) mod_nil) .nil)
   ·
    refine rd_t rfl rfl (t_buildSlice (l := ([((48 : UInt64) + (a_v % (10 : UInt64))).toUInt8] : (List UInt8))) el63 (.cons rfl (fun _ _ h => h) .nil) rfl rfl ?_)
    refine rd_v rfl (v_bs (l := ([((48 : UInt64) + (a_v % (10 : UInt64))).toUInt8] : (List UInt8))) Tryd.underlying63 Tryd.underlying5 Tryd.underlying9 rfl appv_isv) ?_
    refine rd_t rfl rfl (t_call (h_h_Digits hy6) hT (.same rfl .nil) .nil (fun R H' hR => ?_))
    obtain ⟨rfl, rfl⟩ := hR
    refine rd_v rfl (v_cat rfl rfl q8) ?_
    refine rd_v rfl (v_assign rfl) ?_
    refine rd_nil ?_
    exact hJ3 _ () h _ (join_imp 11 rfl rfl (mod_cons (j := 2) rfl (fun _ _ h => h) mod_nil) .nil)

theorem h_Digits_grp_w : ∀ n, h_Digits_C (h_Digits n)
 | 0 => fun h => (by cases h)
 | n + 1 => h_Digits_w0 (h_Digits_grp_w n)
theorem h_Digits_w (n : Nat) : h_Digits_C (h_Digits n) := (h_Digits_grp_w n)

theorem law21_one_w : ∀ {a_a : Str} {a_b : Str} {r : Bool × Bool}, law21_one a_a a_b = some r → Ctr Tryd.prog 22 [isv (a_a), isv (a_b)] [] (fun R H => R = oneOf [isv (r.1), isv (r.2)] ∧ H = []) := by
 intro a_a a_b r h
 unfold law21_one at h
 refine spec_intro Tryd.func22 rfl (by decide +kernel) (by rfl) fun w0 S0 hT => ?_
 refine wsr ?_
 refine oV (v_assign rfl) ?_
 refine oV (v_assign rfl) ?_
 refine rnf ?_
 refine wsr ?_
 refine oV (v_move rfl) ?_
 refine asr_inv h fun q1 h => ?_
 refine oV (v_cat rfl rfl q1) ?_
 refine asr_inv h fun q2 h => ?_
 refine oV (v_cat rfl rfl q2) ?_
 refine cal_inv h fun y3 hy3 h => ?_
 refine oT (t_call (oghamplay_Table_w hy3) hT (.same rfl .nil) .nil (fun R H' hR => ?_))
 obtain ⟨rfl, rfl⟩ := hR
 refine oV (v_move rfl) ?_
 refine oV (v_extract rfl rfl) ?_
 refine oV (v_extract rfl rfl) ?_
 refine oT (t_alloc _ ze26 fun b4 => ?_)
 refine oT (t_storeC (y' := (y3.1 : GTab)) ty26 rfl rfl (fun _ _ h => h) .here rfl ?_)
 refine rl_upd (upd_imm 6 .here rfl) ?_
 refine oV (v_assign rfl) ?_
 refine rnf ?_
 refine wsr ?_
 refine oV (v_move rfl) ?_
 refine asr_inv h fun q5 h => ?_
 refine oV (v_cat rfl rfl q5) ?_
 refine asr_inv h fun q6 h => ?_
 refine oV (v_cat rfl rfl q6) ?_
 refine cal_inv h fun y7 hy7 h => ?_
 refine oT (t_call (oghamplay_Table_w hy7) hT (.same rfl .nil) .nil (fun R H' hR => ?_))
 obtain ⟨rfl, rfl⟩ := hR
 refine oV (v_move rfl) ?_
 refine oV (v_extract rfl rfl) ?_
 refine oV (v_extract rfl rfl) ?_
 refine oT (t_alloc _ ze26 fun b8 => ?_)
 refine oT (t_storeC (y' := (y7.1 : GTab)) ty26 rfl rfl (fun _ _ h => h) .here rfl ?_)
 refine rl_upd (upd_imm 8 .here rfl) ?_
 refine oV (v_assign rfl) ?_
 refine rnf ?_
 refine wsr ?_
 refine oV (v_loadI ty26 rfl) ?_
 refine oV (v_loadI ty26 rfl) ?_
 refine cal_inv h fun y9 hy9 h => ?_
 refine oT (t_call (extend_May_w hy9) hT (.same rfl (.same rfl .nil)) .nil (fun R H' hR => ?_))
 obtain ⟨rfl, rfl⟩ := hR
 refine oV (v_move rfl) ?_
 refine oV (v_extract rfl rfl) ?_
 refine oV (v_extract rfl rfl) ?_
 refine oV (v_assign rfl) ?_
 refine oV (v_assign rfl) ?_
 refine rnf ?_
 refine wsr ?_
 refine oV (v_move rfl) ?_
 refine oV (v_eql rfl rfl) ?_
 refine oV (v_move rfl) ?_
 refine oV (v_move rfl) ?_
 refine rl_j (ι := Bool) (γ := Unit) (fun q10 g10 => [(37, isv (q10))]) (fun q10 g10 => []) .nil h 2 rfl (fun q10 g10 h => ?_) (fun J11 h hJ11 => ?_)
 ·
  refine oV (v_assign rfl) ?_
  refine oV (v_assign rfl) ?_
  refine rnf ?_
  refine w_ret ?_
  refine ret_post (.tmp rfl (.tmp rfl .nil)) .nil ?_
  obtain rfl := Option.some.inj h
  exact ⟨rfl, rfl⟩
 ·
  refine rl_condM (j := 35) h rfl (fun g12 h => ?_) (fun g12 h => ?_)
  ·
   refine op_take rfl rfl (dj := 35) rfl g12 (OpV.t (v_move rfl) ?_)
   refine oV (v_pick_t rfl g12 rfl) ?_
   exact hJ11 _ () h _ (join_imp 2 rfl rfl (mod_cons (j := 37) rfl (fun _ _ h => h) mod_nil) .nil)
  ·
   refine op_pass rfl (dj := 35) rfl g12 ?_
   refine oV (v_pick_f rfl g12 rfl) ?_
   exact hJ11 _ () h _ (join_imp 2 rfl rfl (mod_cons (j := 37) rfl (fun _ _ h => h) mod_nil) .nil)

end Go.Proofs.YtajbipkppngccaaDoor


namespace Go.Sy
open Go.Shelf Go.Lib Go.ChangeShapes Go.WideShapes Go.ChangeAt Go.RowKit

theorem cell_sub {W w : World} {a : Addr} {v : Value} (h : W.cell? a = some v) (hs : (snap W).sub w) : w.cell? a = some v := by
  obtain ⟨h1, c, h2, h3⟩ := cell_snap h
  obtain ⟨c', T, fr, h4, h5⟩ := hs _ _ h2
  unfold World.cell?
  rw [h4]
  simp only [h1]
  obtain ⟨t, ht⟩ := h5
  rw [← Array.getElem?_toList, ← ht, List.getElem?_append_left (by
    rcases Nat.lt_or_ge a.off c.length with h6 | h6
    · exact h6
    · rw [List.getElem?_eq_none h6] at h3; cases h3)]
  exact h3
theorem tabs_of {P : Program} {g1 g2 : Nat} {W : World} (h : Lib.Utf8Tabs g1 g2 W) (e1 : P.globals.findIdx? (·.name == "unicode/utf8.first") = some g1) (e2 : P.globals.findIdx? (·.name == "unicode/utf8.acceptRanges") = some g2) : Tabs P (snap W) := by
  intro w hw k1 k2 h1 h2
  rw [e1] at h1; cases h1
  rw [e2] at h2; cases h2
  exact ⟨fun c hc => cell_sub (h.1 c hc) hw, fun i hi => ⟨cell_sub (h.2 i hi).1 hw, cell_sub (h.2 i hi).2 hw⟩⟩

theorem law_laid {H : Type} {enc : TypeId × Value → H} {a : Assume} {C : Checked} {os : Os} {f : FuncId} {fn : Func} {s : OpenSpec} {F : Stop.Interp} {B : TypeId} {apart fresh handsOn : Bool} {laid : List (String × DataW Unit)}
    (own : ownKnob C.prog.godebug = none) (started : os.Started) (noInit : C.prog.inits.idxOf? f = none) (hfn : C.prog.funcs[f]? = some fn)
    (witness : ∃ (w : World) (tape : Tape) (i : Input), w.os = os ∧ (w.forCall tape i).Shaped C.prog ∧ i.vars = [] ∧ Input.okWide C.prog (w.forCall tape i) .any w.heap.size f i ∧
      s.preRow enc C.prog fn [] apart laid (w.forCall tape i).memory i.args ∧ a.holds C.prog (lone (Frame.enter C.prog f i.args .normal) [] (w.forCall tape i)))
    (hl : laidOutB C.prog = true) (hr : (fn.params.toList.all fun t => C.prog.readableRec t && decide (t < C.prog.types.size)) = true) (hv : s.vars = []) (hres : fn.resultTypes = #[B]) (hB : C.prog.underlying B = some .bool)
    (hs : ∀ ds : List (DataW H), ds.length = fn.params.size → (s.at F).fn H ds = { results := [.lit (.bool true)], args := ds })
    (tabs : ∀ W, laidMetH C.prog laid W → Tabs C.prog (snap W))
    (run : ∀ (W : World) (vs : List Value) (ds : List (DataW H)) (p : List MemPlace), Tabs C.prog (snap W) → DataW.TrodAll enc C.prog W 0 (fun _ => true) true fn.params.toList vs ds p → (∀ k ∈ DataW.weightsEach C.prog fn.params.toList ds, k ≤ reachBytes) → (∃ base, ∀ (j : Nat) t v, fn.params.toList[j]? = some t → vs[j]? = some v → Value.okWide C.prog W .any base t v) →
      Calls C.prog f vs.toArray W fun e W' => e = .returned (.bool true) ∧ Keep [] W W') :
    ReturnsInHanded a C os f .any (s.preRow enc C.prog fn [] apart laid) ((s.at F).post enc C.prog fn apart fresh handsOn false) := by
  refine returnsInHanded_of_row own started noInit hfn witness ?_
  intro W base args ds gs before hval hW _ _ hwt hL _ _
  have hlt := hW.lt
  have hW0 := hW
  obtain ⟨p, q, hA, hV, rfl, hfz, hnd⟩ := hW
  rw [hv] at hV
  have hgs : gs = [] ∧ q = [] := by
    cases gs with
    | nil => exact ⟨rfl, hV⟩
    | cons _ _ => exact hV.elim
  obtain ⟨rfl, rfl⟩ := hgs
  have hlen : ds.length = fn.params.size := by
    have : ∀ {ts : List TypeId} {vs : List Value} {ds : List (DataW H)} {ps : List MemPlace}, DataW.TrodAll enc C.prog W 0 (fun _ => true) true ts vs ds ps → ds.length = ts.length := by
      intro ts
      induction ts with
      | nil => intro vs ds ps h; cases vs <;> cases ds <;> simp_all [DataW.TrodAll]
      | cons t ts ih =>
        intro vs ds ps h
        cases vs <;> cases ds <;> simp only [DataW.TrodAll] at h
        obtain ⟨_, _, _, h2, _⟩ := h
        simp [ih h2]
    simpa using this hA
  have hvt' : s.bare.plain.varTypes C.prog = [] := by
    simp [OpenSpec.bare, ChangeSpec.plain, DataSpec.varTypes, hv]
  rw [hvt', List.append_nil, List.append_nil] at hwt
  have hrun := run W args.toList ds p (tabs W hL) hA (fun k hk => by simpa using List.all_eq_true.1 hwt k hk) ⟨base, fun j t v hj hv' => hval j t v (by simpa using hj) (by simpa using hv')⟩
  refine hrun.mono fun e W' ⟨he, hk⟩ => ?_
  subst he
  have hb := hk.below
  refine ⟨_, rfl, ds, [], p ++ [], [], p, [], hW0, ?_, ?_, ?_, hb.frame _, fun h => by cases h⟩
  · rw [List.append_nil, hs ds hlen, hres]
    exact trodAll_mk1 (shut_bool hB true)
  · rw [List.append_nil, hs ds hlen]
    exact trodAll_stays hl hb hr hA (fun x hx => hlt x (List.mem_append_left _ hx)) (fun x hx => by simpa using hlt x (List.mem_append_left _ hx))
  · show DataW.TrodVars enc C.prog W' _ s.vars _ _
    rw [hv]
    rw [List.append_nil, hs ds hlen]
    exact rfl
end Go.Sy


namespace Go.Proofs.YtajbipkppngccaaDoor
open Go.Sy Go.Shelf Go.Lib Go.ChangeShapes Go.WideShapes Go.ChangeAt Go.RowKit

theorem own : ownKnob Tryd.prog.godebug = none := by kernel_rfl
theorem laidOut : laidOutB Tryd.prog = true := by kernel_rfl

/-- A world in which the two tables hold what their texts lay. -/
noncomputable def laidWorld (os : Os) : World :=
  let w0 := World.holding Tryd.prog os ⟨#[], #[], []⟩
  let put (h : Array Obj) (g : Nat) (cs : Array Value) : Array Obj := h.modify g fun
    | .cells _ t frozen => .cells cs t frozen
    | o => o
  let h1 := put w0.heap 0 (Lib.firstTab.map fun z => Value.int .u8 z).toArray
  let h2 := put h1 1 ((List.range 16).flatMap fun i => [Value.int .u8 (Lib.accLo i), Value.int .u8 (Lib.accHi i)]).toArray
  { w0 with heap := h2 }
/-- The two tables, as the rows list them. -/
def laidTwo : List (String × DataW Unit) := [("unicode/utf8.acceptRanges", Lib.acceptData), ("unicode/utf8.first", Lib.firstData)]
theorem laid_met (os : Os) (args : Array Value) : laidMet Tryd.prog laidTwo ((laidWorld os).forCall (fun _ _ => 0) ⟨#[], args, []⟩).memory :=
  (LaidIn.of_run [0, 1] 8 (by kernel_rfl) (by kernel_rfl) (by kernel_rfl) (by kernel_rfl)).met
theorem tabs_laid (W : World) (h : laidMetH Tryd.prog laidTwo W) : Tabs Tryd.prog (snap W) :=
  tabs_of (utf8Tabs_of_readsT (U8Types.of196 valLays) ⟨by kernel_rfl, by kernel_rfl, by kernel_rfl, by kernel_rfl, by kernel_rfl, by kernel_rfl, by kernel_rfl⟩ (Lib.laidMet.reads h (.tail _ (.head _))) (Lib.laidMet.reads h (.head _))) valLays.g3 valLays.g4
end Go.Proofs.YtajbipkppngccaaDoor

