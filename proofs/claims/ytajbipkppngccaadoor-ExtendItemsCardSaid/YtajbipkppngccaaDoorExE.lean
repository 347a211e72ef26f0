/- Finitely many cases: what is said of all of them is asked one by one. No condition: general lemmas. -/
import Derived.Test.YtajbipkppngccaaDoorExA
import Derived.Test.YtajbipkppngccaaDoorExB
import Derived.Test.YtajbipkppngccaaDoorExC
import Derived.Test.YtajbipkppngccaaDoorExD
import Derived.KernelRfl

namespace Go.Proofs.YtajbipkppngccaaDoor
open Go.Sy
set_option maxRecDepth 4000
def r10_maker_fields_C (f' : GMk → Int → GNode → Int → Option (GMk)) : Prop :=
 ∀ {a_x : GMk} {a_i : Int} {a_n_ : GNode} {a_depth : Int} {b_a_x : Nat} {v_a_x1 : Vt} {r : GMk}, f' a_x a_i a_n_ a_depth = some r → Ctr Tryd.prog 114 [ptrv b_a_x (Fld.id (GMod × Vh × Int)), isv (a_i), isv (a_n_), isv (a_depth)] [boxE b_a_x ((a_x.m, (Vh.mk v_a_x1 a_x.l.length), a_x.e) : (GMod × Vh × Int)), vecE v_a_x1 (a_x.l : List GTyp)] (fun R H => ∃ u1 : Vt, R = oneOf [] ∧ H = [boxE b_a_x ((r.m, (Vh.mk u1 r.l.length), r.e)), vecE u1 (r.l)])
def r10_maker_node_C (f' : GMk → Int → Int → Option (Int × GMk)) : Prop :=
 ∀ {a_x : GMk} {a_k : Int} {a_depth : Int} {b_a_x : Nat} {v_a_x1 : Vt} {r : Int × GMk}, f' a_x a_k a_depth = some r → Ctr Tryd.prog 58 [ptrv b_a_x (Fld.id (GMod × Vh × Int)), isv (a_k), isv (a_depth)] [boxE b_a_x ((a_x.m, (Vh.mk v_a_x1 a_x.l.length), a_x.e) : (GMod × Vh × Int)), vecE v_a_x1 (a_x.l : List GTyp)] (fun R H => ∃ u1 : Vt, R = oneOf [isv (r.1)] ∧ H = [boxE b_a_x ((r.2.m, (Vh.mk u1 r.2.l.length), r.2.e)), vecE u1 (r.2.l)])
def r10_maker_made_C (f' : GMk → GNode → Int → Option (Int × GMk)) : Prop :=
 ∀ {a_x : GMk} {a_n_ : GNode} {a_depth : Int} {b_a_x : Nat} {v_a_x1 : Vt} {r : Int × GMk}, f' a_x a_n_ a_depth = some r → Ctr Tryd.prog 85 [ptrv b_a_x (Fld.id (GMod × Vh × Int)), isv (a_n_), isv (a_depth)] [boxE b_a_x ((a_x.m, (Vh.mk v_a_x1 a_x.l.length), a_x.e) : (GMod × Vh × Int)), vecE v_a_x1 (a_x.l : List GTyp)] (fun R H => ∃ u1 : Vt, R = oneOf [isv (r.1)] ∧ H = [boxE b_a_x ((r.2.m, (Vh.mk u1 r.2.l.length), r.2.e)), vecE u1 (r.2.l)])
theorem r10_maker_fields_w0 {r10_maker_fields' : GMk → Int → GNode → Int → Option (GMk)} {r10_maker_node' : GMk → Int → Int → Option (Int × GMk)} {r10_maker_made' : GMk → GNode → Int → Option (Int × GMk)} (h_r10_maker_fields : r10_maker_fields_C r10_maker_fields') (h_r10_maker_node : r10_maker_node_C r10_maker_node') (h_r10_maker_made : r10_maker_made_C r10_maker_made') : ∀ {a_x : GMk} {a_i : Int} {a_n_ : GNode} {a_depth : Int} {b_a_x : Nat} {v_a_x1 : Vt} {r : GMk}, r10_maker_fields_F r10_maker_fields' r10_maker_node' r10_maker_made' a_x a_i a_n_ a_depth = some r → Ctr Tryd.prog 114 [ptrv b_a_x (Fld.id (GMod × Vh × Int)), isv (a_i), isv (a_n_), isv (a_depth)] [boxE b_a_x ((a_x.m, (Vh.mk v_a_x1 a_x.l.length), a_x.e) : (GMod × Vh × Int)), vecE v_a_x1 (a_x.l : List GTyp)] (fun R H => ∃ u1 : Vt, R = oneOf [] ∧ H = [boxE b_a_x ((r.m, (Vh.mk u1 r.l.length), r.e)), vecE u1 (r.l)]) := by
 intro a_x a_i a_n_ a_depth b_a_x v_a_x1 r h
 unfold r10_maker_fields_F at h
 refine spec_intro Tryd.func114 rfl (by decide +kernel) (by rfl) fun w0 S0 hT => ?_
 refine wsr ?_
 refine oT (t_boxIC (y := a_n_) rfl (fun _ _ h => h) ?_)
 refine rnf ?_
 refine wsr ?_
 refine oV (v_move rfl) ?_
 refine oV (v_nilCheck rfl) ?_
 refine oV (v_fa rfl pt113_0_0 fd113_0) ?_
 refine oV (v_fa rfl GMod.f1 fd75_1) ?_
 refine oT (t_loadC (R := isv (a_x.m.tagging)) ty3 rfl .here (fun _ _ h => h) ?_)
 refine oV (v_neq rfl rfl) ?_
 refine oV (v_assign rfl) ?_
 refine rnf ?_
 refine w_seq ?_
 refine wsr ?_
 refine oV (v_assign rfl) ?_
 refine rnf ?_
 refine w_block ?_
 refine w_lp (ι := Bool × Int) (γ := Unit) (fun q2 g2 => [(0, ptrv b_a_x (Fld.id (GMod × Vh × Int))), (8, isv (q2.1)), (9, isv (q2.2))]) (fun q2 g2 => []) h () (mod_cons (j := 0) rfl (fun _ _ h => h) (mod_cons (j := 8) rfl (fun _ _ h => h) (mod_cons (j := 9) rfl (fun _ _ h => h) mod_nil))) .nil (fun L3 q2 g2 Q336 h hL3 eL3 rL3 => ?_)
 refine w_seq ?_
 refine wsr ?_
 refine oV (v_move rfl) ?_
 refine oV (v_fi rfl GNode.f5 fd133_5 rfl (z := a_n_.fields)) ?_
 refine oV (v_loadI ty56 rfl) ?_
 refine oV (v_ln (l := a_n_.fields) rfl (fun _ _ h => h) sl56) ?_
 refine oV (v_lss rfl rfl) ?_
 refine rnf ?_
 refine w_condM h rfl (fun _ h => ?_) (fun _ h => ?_)
 ·
  refine wkf ?_
  refine w_seq ?_
  refine w_block ?_
  refine wsr ?_
  refine oV (v_fi rfl GNode.f5 fd133_5 rfl (z := a_n_.fields)) ?_
  refine oV (v_loadI ty56 rfl) ?_
  refine oV (v_move rfl) ?_
  refine cal_inv h fun y170 hy170 h => ?_
  refine oV (v_ix (l := a_n_.fields) rfl (fun _ _ h => h) rfl sl56 hy170) ?_
  refine oV (v_loadI ty69 rfl) ?_
  refine oT (t_alloc _ ze69 fun b171 => ?_)
  refine oT (t_storeC (y' := (y170 : GFld)) ty69 rfl rfl (fun _ _ h => h) .here rfl ?_)
  refine rl_upd (upd_imm 10 .here rfl) ?_
  refine rnf ?_
  refine w_pinN 0 .here rfl (fun o172 hn173 => ?_)
  refine w_regionD (.v 0 (.v 1 (.v 2 (.v 3 (.v 4 (.v 5 (.v 6 (.v 7 (.v 8 (.v 9 (.v 10 (.v 11 (.v 12 (.v 13 (.v 14 .nil))))))))))))))) moOrd (by kernel_rfl) ?_
  refine rd_v rfl (v_move rfl) ?_
  refine rd_v rfl (v_move rfl) ?_
  refine rd_j (ι := Bool) (γ := Unit) (fun q174 g174 => [(46, isv (q174))]) (fun q174 g174 => []) .nil h 12 rfl (fun q174 g174 h => ?_) (fun J175 h hJ175 => ?_)
  ·
   refine rd_v rfl (v_assign rfl) ?_
   refine rd_nil ?_
   refine fin_unpinN 0 hn173 rfl ?_
   refine fin_block ?_
   refine fin_nxt ?_
   refine w_region ?_
   refine oV (v_move rfl) ?_
   refine ck_inv h fun q178 h => ?_
   refine oV (v_add rfl rfl q178) ?_
   refine oV (v_assign rfl) ?_
   refine rl_nil ?_
   exact hL3 _ () h _ (join_imp 24 rfl rfl (mod_cons (j := 0) rfl (fun _ _ h => h) (mod_cons (j := 8) rfl (fun _ _ h => h) (mod_cons (j := 9) rfl (fun _ _ h => h) mod_nil))) (.cons .here (.cons .here .nil)))
  ·
   refine rd_condM (j := 34) h rfl (fun g176 h => ?_) (fun g176 h => ?_)
   ·
    refine rd_passV rfl rfl (dj := 34) rfl g176 ?_
    refine rd_passV rfl rfl (dj := 34) rfl g176 ?_
    refine rd_passV rfl rfl (dj := 34) rfl g176 ?_
    refine rd_passV rfl rfl (dj := 34) rfl g176 ?_
    refine rd_passV rfl rfl (dj := 34) rfl g176 ?_
    refine rd_passV rfl rfl (dj := 34) rfl g176 ?_
    refine rd_passV rfl rfl (dj := 34) rfl g176 ?_
    refine rd_passV rfl rfl (dj := 34) rfl g176 ?_
    refine rd_passV rfl rfl (dj := 34) rfl g176 ?_
    refine rd_passV rfl rfl (dj := 34) rfl g176 ?_
    refine rd_passV rfl rfl (dj := 34) rfl g176 ?_
    refine rd_v rfl (v_pick_t rfl g176 rfl) ?_
    exact hJ175 _ () h _ (join_imp 12 rfl rfl (mod_cons (j := 46) rfl (fun _ _ h => h) mod_nil) (.cons .here .nil))
   ·
    refine rd_vt rfl rfl (dj := 34) rfl g176 (v_move rfl) ?_
    refine rd_vt rfl rfl (dj := 34) rfl g176 (v_nilCheckP rfl) ?_
    refine rd_vt rfl rfl (dj := 34) rfl g176 (v_fp rfl pt113_0_0 fd113_0) ?_
    refine rd_vt rfl rfl (dj := 34) rfl g176 (v_fp rfl GMod.f4 fd75_4) ?_
    refine rd_vt rfl rfl (dj := 34) rfl g176 (v_lpC (R := isv (a_x.m.nodes)) ty73 rfl (List.Mem.head _) (fun _ _ h => h)) ?_
    refine rd_vt rfl rfl (dj := 34) rfl g176 (v_fi rfl GFld.f1 fd69_1 rfl (z := y170.ty)) ?_
    refine rd_vt rfl rfl (dj := 34) rfl g176 (v_loadI ty3 rfl) ?_
    refine cal_inv h fun y177 hy177 h => ?_
    refine rd_vt rfl rfl (dj := 34) rfl g176 (v_ix (l := a_x.m.nodes) rfl (fun _ _ h => h) rfl sl73 hy177) ?_
    refine rd_vt rfl rfl (dj := 34) rfl g176 (v_fi rfl GNode.f2 fd133_2 rfl (z := y177.mark)) ?_
    refine rd_vt rfl rfl (dj := 34) rfl g176 (v_fi rfl GMark.f0 fd131_0 rfl (z := y177.mark.has)) ?_
    refine rd_vt rfl rfl (dj := 34) rfl g176 (v_loadI ty4 rfl) ?_
    refine rd_v rfl (v_pick_f rfl g176 rfl) ?_
    exact hJ175 _ () h _ (join_imp 12 rfl rfl (mod_cons (j := 46) rfl (fun _ _ h => h) mod_nil) (.cons .here .nil))
 ·
  refine w_exit ?_
  refine exi_nxt ?_
  refine eL3 _ _ ?_
  refine exi_block ?_
  refine fin_nxt ?_
  refine w_seq ?_
  refine wsr ?_
  refine oV (v_fi rfl GNode.f0 fd133_0 rfl (z := a_n_.kind)) ?_
  refine oV (v_loadI ty3 rfl) ?_
  refine oV (v_eql rfl rfl) ?_
  refine oV (v_move rfl) ?_
  refine rl_j (ι := Bool) (γ := Unit) (fun q179 g179 => [(55, isv (q179))]) (fun q179 g179 => []) .nil h 5 rfl (fun q179 g179 h => ?_) (fun J180 h hJ180 => ?_)
  ·
   refine oV (v_move rfl) ?_
   refine rl_j (ι := Bool) (γ := Unit) (fun q182 g182 => [(60, isv (q182))]) (fun q182 g182 => []) .nil h 4 rfl (fun q182 g182 h => ?_) (fun J183 h hJ183 => ?_)
   ·
    refine rnf ?_
    refine w_J (ι := GMk) (γ := Unit) (fun q185 g185 => []) (fun q185 g185 => [boxE b_a_x ((q185.m, (Vh.mk v_a_x1 q185.l.length), q185.e) : (GMod × Vh × Int)), vecE v_a_x1 (q185.l : List GTyp)]) (.cons .here (.cons .here .nil)) h (fun q185 g185 h => ?_) (fun J186 h hJ186 => ?_)
    ·
     refine wsr ?_
     refine oV (v_assign rfl) ?_
     refine rnf ?_
     refine w_seq ?_
     refine wsr ?_
     refine oV (v_assign rfl) ?_
     refine rnf ?_
     refine w_block ?_
     refine w_upd (upd_tok) ?_
     refine w_lp (ι := (List GFld) × Int × GMk) (γ := Tok × Vt) (fun q188 g188 => [(11, appv g188.1 (q188.1)), (12, isv (q188.2.1))]) (fun q188 g188 => [tokE g188.1, boxE b_a_x ((q188.2.2.m, (Vh.mk g188.2 q188.2.2.l.length), q188.2.2.e) : (GMod × Vh × Int)), vecE g188.2 (q188.2.2.l : List GTyp)]) h (none, v_a_x1) (mod_cons (j := 11) rfl nilv_appv (mod_cons (j := 12) rfl (fun _ _ h => h) mod_nil)) (.cons .here (.cons .here (.cons .here .nil))) (fun L189 q188 g188 Q335 h hL189 eL189 rL189 => ?_)
     refine w_seq ?_
     refine wsr ?_
     refine oV (v_move rfl) ?_
     refine oV (v_fi rfl GNode.f5 fd133_5 rfl (z := a_n_.fields)) ?_
     refine oV (v_loadI ty56 rfl) ?_
     refine oV (v_ln (l := a_n_.fields) rfl (fun _ _ h => h) sl56) ?_
     refine oV (v_lss rfl rfl) ?_
     refine oV (v_move rfl) ?_
     refine rl_j (ι := Bool) (γ := Unit) (fun q262 g262 => [(74, isv (q262))]) (fun q262 g262 => []) .nil h 6 rfl (fun q262 g262 h => ?_) (fun J263 h hJ263 => ?_)
     ·
      refine rnf ?_
      refine w_condM h rfl (fun _ h => ?_) (fun _ h => ?_)
      ·
       refine wkf ?_
       refine w_seq ?_
       refine w_block ?_
       refine wsr ?_
       refine oV (v_fi rfl GNode.f5 fd133_5 rfl (z := a_n_.fields)) ?_
       refine oV (v_loadI ty56 rfl) ?_
       refine oV (v_move rfl) ?_
       refine cal_inv h fun y265 hy265 h => ?_
       refine oV (v_ix (l := a_n_.fields) rfl (fun _ _ h => h) rfl sl56 hy265) ?_
       refine oV (v_loadI ty69 rfl) ?_
       refine oT (t_alloc _ ze69 fun b266 => ?_)
       refine oT (t_storeC (y' := (y265 : GFld)) ty69 rfl rfl (fun _ _ h => h) .here rfl ?_)
       refine rnf ?_
       refine w_seq ?_
       refine wsr ?_
       refine oV (v_assign rfl) ?_
       refine rnf ?_
       refine w_block ?_
       refine w_lp (ι := Int × GMk) (γ := Unit) (fun q267 g267 => [(13, ptrv b266 (Fld.id GFld)), (14, isv (q267.1))]) (fun q267 g267 => [boxE b_a_x ((q267.2.m, (Vh.mk g188.2 q267.2.l.length), q267.2.e) : (GMod × Vh × Int)), vecE g188.2 (q267.2.l : List GTyp)]) h () (mod_cons (j := 13) rfl (fun _ _ h => h) (mod_cons (j := 14) rfl (fun _ _ h => h) mod_nil)) (.cons (.there (.there .here)) (.cons (.there (.there .here)) .nil)) (fun L268 q267 g267 Q327 h hL268 eL268 rL268 => ?_)
       refine w_seq ?_
       refine wsr ?_
       refine oV (v_move rfl) ?_
       refine oV (v_move rfl) ?_
       refine oV (v_lss rfl rfl) ?_
       refine rnf ?_
       refine w_condM h rfl (fun _ h => ?_) (fun _ h => ?_)
       ·
        refine wkf ?_
        refine w_seq ?_
        refine w_J (ι := GMk) (γ := Unit) (fun q298 g298 => [(13, ptrv b266 (Fld.id GFld))]) (fun q298 g298 => [boxE b_a_x ((q298.m, (Vh.mk g188.2 q298.l.length), q298.e) : (GMod × Vh × Int)), vecE g188.2 (q298.l : List GTyp)]) (.cons .here (.cons .here .nil)) h (fun q298 g298 h => ?_) (fun J299 h hJ299 => ?_)
        ·
         refine w_region ?_
         refine oV (v_move rfl) ?_
         refine ck_inv h fun q304 h => ?_
         refine oV (v_add rfl rfl q304) ?_
         refine oV (v_assign rfl) ?_
         refine rl_nil ?_
         exact hL268 _ () h _ (join_imp 9 rfl rfl (mod_cons (j := 13) rfl (fun _ _ h => h) (mod_cons (j := 14) rfl (fun _ _ h => h) mod_nil)) (.cons .here (.cons .here (.cons .here (.cons .here .nil)))))
        ·
         refine w_block ?_
         refine w_seq ?_
         refine w_pinN 13 (.there (.there .here)) rfl (fun o300 hn301 => ?_)
         refine w_regionD (.v 0 (.v 1 (.v 2 (.v 3 (.v 4 (.v 5 (.v 6 (.v 7 (.v 8 .nil))))))))) moOrd (by kernel_rfl) ?_
         refine rd_v rfl (v_fi rfl GNode.f5 fd133_5 rfl (z := a_n_.fields)) ?_
         refine rd_v rfl (v_loadI ty56 rfl) ?_
         refine rd_v rfl (v_move rfl) ?_
         refine cal_inv h fun y302 hy302 h => ?_
         refine rd_v rfl (v_ix (l := a_n_.fields) rfl (fun _ _ h => h) rfl sl56 hy302) ?_
         refine rd_v rfl (v_fi rfl GFld.f0 fd69_0 rfl (z := y302.name)) ?_
         refine rd_v rfl (v_loadI ty9 rfl) ?_
         refine rd_v rfl (v_fp rfl GFld.f0 fd69_0) ?_
         refine rd_v rfl (v_lpC (R := isv (y265.name)) ty9 rfl (List.Mem.head _) (fun _ _ h => h)) ?_
         refine rd_v rfl (v_eqA eq9 rfl rfl) ?_
         refine rd_nil ?_
         refine fin_unpinN 13 hn301 rfl ?_
         refine fin_nxt ?_
         refine w_condM h rfl (fun _ h => ?_) (fun _ h => ?_)
         ·
          refine w_region ?_
          refine oV (v_move rfl) ?_
          refine cal_inv h fun y303 hy303 h => ?_
          refine oT (t_call (r10_maker_fail_w hy303) hT (.same rfl (.same rfl .nil)) (.cons (.there .here) (.cons (.there .here) .nil)) (fun R H' hR => ?_))
          obtain ⟨rfl, rfl⟩ := hR
          refine rl_nil ?_
          refine fin_block ?_
          exact hJ299 _ () h _ (join_imp 13 rfl rfl (mod_cons (j := 13) rfl (fun _ _ h => h) mod_nil) (.cons .here (.cons .here (.cons .here (.cons .here .nil)))))
         ·
          refine w_skip ?_
          refine fin_block ?_
          exact hJ299 _ () h _ (join_imp 11 rfl rfl (mod_cons (j := 13) rfl (fun _ _ h => h) mod_nil) (.cons (.there .here) (.cons (.there .here) (.cons .here (.cons .here .nil)))))
       ·
        refine w_exit ?_
        refine exi_nxt ?_
        refine eL268 _ _ ?_
        refine exi_block ?_
        refine fin_nxt ?_
        refine wsr ?_
        refine oV (v_move rfl) ?_
        refine oV (v_fa rfl GFld.f1 fd69_1) ?_
        refine oT (t_loadC (R := isv (y265.ty)) ty3 rfl (.there (.there .here)) (fun _ _ h => h) ?_)
        refine oV (v_move rfl) ?_
        refine ck_inv h fun q305 h => ?_
        refine oV (v_add rfl rfl q305) ?_
        refine cal_inv h fun y306 hy306 h => ?_
        refine oT (t_call (h_r10_maker_node hy306) hT (.same rfl (.same rfl (.same rfl .nil))) (.cons .here (.cons .here .nil)) (fun R H' hR => ?_))
        obtain ⟨v307, rfl, rfl⟩ := hR
        refine oV (v_fa rfl GFld.f1 fd69_1) ?_
        refine oT (t_storeC (y' := ({ y265 with ty := y306.1 } : GFld)) ty3 rfl rfl (fun _ _ h => h) (.there (.there .here)) rfl ?_)
        refine rnf ?_
        refine w_seq ?_
        refine wsr ?_
        refine oV (v_move rfl) ?_
        refine oV (v_nilCheck rfl) ?_
        refine oV (v_fa rfl pt113_0_2 fd113_2) ?_
        refine oT (t_loadC (R := isv (y306.2.e)) ty30 rfl (.there .here) (fun _ _ h => h) ?_)
        refine oV (v_eql rfl rfl) ?_
        refine oV (v_move rfl) ?_
        refine rl_j (ι := Bool) (γ := Unit) (fun q308 g308 => [(113, isv (q308))]) (fun q308 g308 => []) .nil h 3 rfl (fun q308 g308 h => ?_) (fun J309 h hJ309 => ?_)
        ·
         refine rnf ?_
         refine w_J (ι := GFld × GMk) (γ := Unit) (fun q311 g311 => []) (fun q311 g311 => [boxE b266 (q311.1 : GFld), boxE b_a_x ((q311.2.m, (Vh.mk v307 q311.2.l.length), q311.2.e) : (GMod × Vh × Int)), vecE v307 (q311.2.l : List GTyp)]) (.cons .here (.cons .here (.cons .here .nil))) h (fun q311 g311 h => ?_) (fun J312 h hJ312 => ?_)
         ·
          refine w_seq ?_
          refine wsr ?_
          refine oV (v_move rfl) ?_
          refine oV (v_nilCheck rfl) ?_
          refine oV (v_fa rfl pt113_0_2 fd113_2) ?_
          refine oT (t_loadC (R := isv (q311.2.e)) ty30 rfl (.there .here) (fun _ _ h => h) ?_)
          refine oV (v_eql rfl rfl) ?_
          refine oV (v_move rfl) ?_
          refine rl_j (ι := Bool) (γ := Unit) (fun q314 g314 => [(129, isv (q314))]) (fun q314 g314 => []) .nil h 3 rfl (fun q314 g314 h => ?_) (fun J315 h hJ315 => ?_)
          ·
           refine rnf ?_
           refine w_J (ι := GMk) (γ := Unit) (fun q317 g317 => [(13, ptrv b266 (Fld.id GFld))]) (fun q317 g317 => [boxE b_a_x ((q317.m, (Vh.mk v307 q317.l.length), q317.e) : (GMod × Vh × Int)), vecE v307 (q317.l : List GTyp)]) (.cons (.there .here) (.cons (.there .here) .nil)) h (fun q317 g317 h => ?_) (fun J318 h hJ318 => ?_)
           ·
            refine w_region ?_
            refine oV (v_move rfl) ?_
            refine oT (t_loadC (R := isv (q311.1)) ty69 rfl (.there (.there .here)) (fun _ _ h => h) ?_)
            refine oT (t_buildSlice (l := ([q311.1] : (List GFld))) el56 (.cons rfl (fun _ _ h => h) .nil) rfl rfl ?_)
            refine asr_inv h fun q325 h => ?_
            refine oT (t_appC (l := q188.1) (m := ([q311.1] : (List GFld))) ap56_56 rfl (fun _ _ h => h) rfl appv_isv (.there (.there (.there .here))) q325 fun t324 => ?_)
            refine oV (v_assign rfl) ?_
            refine rl_nil ?_
            refine fin_block ?_
            refine fin_nxt ?_
            refine w_region ?_
            refine oV (v_move rfl) ?_
            refine ck_inv h fun q326 h => ?_
            refine oV (v_add rfl rfl q326) ?_
            refine oV (v_assign rfl) ?_
            refine rl_nil ?_
            exact hL189 _ (t324, v307) h _ (join_imp 51 rfl rfl (mod_cons (j := 11) rfl (fun _ _ h => h) (mod_cons (j := 12) rfl (fun _ _ h => h) mod_nil)) (.cons .here (.cons .here (.cons .here .nil))))
           ·
            refine w_condM h rfl (fun _ h => ?_) (fun _ h => ?_)
            ·
             refine w_pinN 13 .here rfl (fun o319 hn320 => ?_)
             refine w_regionD (.v 0 (.v 1 (.v 2 (.v 3 (.v 4 (.v 5 (.v 6 (.t 7 (.t 8 .nil))))))))) moOrd (by kernel_rfl) ?_
             refine rd_v rfl (v_move rfl) ?_
             refine rd_v rfl (v_fp rfl GFld.f1 fd69_1) ?_
             refine rd_v rfl (v_lpC (R := isv (q311.1.ty)) ty3 rfl (List.Mem.head _) (fun _ _ h => h)) ?_
             refine rd_v rfl (v_move rfl) ?_
             refine rd_v rfl (v_move rfl) ?_
             refine rd_v rfl (v_fp rfl GFld.f1 fd69_1) ?_
             refine rd_v rfl (v_lpC (R := isv (q311.1.ty)) ty3 rfl (List.Mem.head _) (fun _ _ h => h)) ?_
             refine cal_inv h fun y321 hy321 h => ?_
             refine rd_t rfl rfl (t_call (r10_maker_soft_w hy321) hT (.same rfl (.same rfl .nil)) (.cons .here (.cons .here .nil)) (fun R H' hR => ?_))
             obtain ⟨rfl, rfl⟩ := hR
             refine cal_inv h fun y322 hy322 h => ?_
             refine rd_t rfl rfl (t_call (r10_maker_wrap_w hy322) hT (.same rfl (.same rfl (.same rfl (.same rfl .nil)))) (.cons .here (.cons .here .nil)) (fun R H' hR => ?_))
             obtain ⟨rfl, rfl⟩ := hR
             refine rd_nil ?_
             refine fin_unpinN 13 hn320 rfl ?_
             exact hJ318 _ () h _ (join_imp 11 rfl rfl (mod_cons (j := 13) rfl (fun _ _ h => h) mod_nil) (.cons (.there .here) (.cons (.there .here) (.cons .here (.cons .here .nil)))))
            ·
             refine w_skip ?_
             exact hJ318 _ () h _ (join_imp 0 rfl rfl (mod_cons (j := 13) rfl (fun _ _ h => h) mod_nil) (.cons (.there .here) (.cons (.there .here) (.cons .here (.cons .here .nil)))))
          ·
           refine rl_condM (j := 126) h rfl (fun g316 h => ?_) (fun g316 h => ?_)
           ·
            refine op_take rfl rfl (dj := 126) rfl g316 (OpV.t (v_move rfl) ?_)
            refine op_take rfl rfl (dj := 126) rfl g316 (OpV.t (v_not rfl) ?_)
            refine oV (v_pick_t rfl g316 rfl) ?_
            exact hJ315 _ () h _ (join_imp 3 rfl rfl (mod_cons (j := 129) rfl (fun _ _ h => h) mod_nil) (.cons .here (.cons .here (.cons .here (.cons .here .nil)))))
           ·
            refine op_pass rfl (dj := 126) rfl g316 ?_
            refine op_pass rfl (dj := 126) rfl g316 ?_
            refine oV (v_pick_f rfl g316 rfl) ?_
            exact hJ315 _ () h _ (join_imp 3 rfl rfl (mod_cons (j := 129) rfl (fun _ _ h => h) mod_nil) (.cons .here (.cons .here (.cons .here (.cons .here .nil)))))
         ·
          refine w_condM h rfl (fun _ h => ?_) (fun _ h => ?_)
          ·
           refine w_region ?_
           refine oV (v_move rfl) ?_
           refine oV (v_fa rfl GFld.f1 fd69_1) ?_
           refine oT (t_loadC (R := isv (y306.1)) ty3 rfl .here (fun _ _ h => h) ?_)
           refine oV (v_fa rfl GFld.f4 fd69_4) ?_
           refine oT (t_loadC (R := isv (y265.dflt)) ty67 rfl .here (fun _ _ h => h) ?_)
           refine cal_inv h fun y313 hy313 h => ?_
           refine oT (t_call (r10_maker_standard_w hy313) hT (.same rfl (.same rfl (.same rfl .nil))) (.cons (.there .here) (.cons (.there .here) .nil)) (fun R H' hR => ?_))
           obtain ⟨rfl, rfl⟩ := hR
           refine oV (v_fa rfl GFld.f4 fd69_4) ?_
           refine oT (t_storeC (y' := ({ { y265 with ty := y306.1 } with dflt := y313.1 } : GFld)) ty67 rfl rfl (fun _ _ h => h) (.there (.there .here)) rfl ?_)
           refine rl_nil ?_
           exact hJ312 _ () h _ (join_imp 7 rfl rfl mod_nil (.cons .here (.cons .here (.cons .here (.cons .here .nil)))))
          ·
           refine w_skip ?_
           exact hJ312 _ () h _ (join_imp 0 rfl rfl mod_nil (.cons .here (.cons .here (.cons .here (.cons .here .nil)))))
        ·
         refine rl_condM (j := 110) h rfl (fun g310 h => ?_) (fun g310 h => ?_)
         ·
          refine op_take rfl rfl (dj := 110) rfl g310 (OpV.t (v_fa rfl GFld.f3 fd69_3) ?_)
          refine op_take rfl rfl (dj := 110) rfl g310 (t_loadC (R := isv (y265.has)) ty4 rfl .here (fun _ _ h => h) ?_)
          refine oV (v_pick_t rfl g310 rfl) ?_
          exact hJ309 _ () h _ (join_imp 3 rfl rfl (mod_cons (j := 113) rfl (fun _ _ h => h) mod_nil) (.cons .here (.cons .here (.cons .here (.cons .here .nil)))))
         ·
          refine op_pass rfl (dj := 110) rfl g310 ?_
          refine op_pass rfl (dj := 110) rfl g310 ?_
          refine oV (v_pick_f rfl g310 rfl) ?_
          exact hJ309 _ () h _ (join_imp 3 rfl rfl (mod_cons (j := 113) rfl (fun _ _ h => h) mod_nil) (.cons .here (.cons .here (.cons .here (.cons .here .nil)))))
      ·
       refine w_exit ?_
       refine exi_nxt ?_
       refine eL189 _ _ ?_
       refine exi_block ?_
       refine fin_nxt ?_
       refine wsr ?_
       refine oV (v_move rfl) ?_
       refine oV (v_nilCheck rfl) ?_
       refine oV (v_fa rfl pt113_0_2 fd113_2) ?_
       refine oT (t_loadC (R := isv (q188.2.2.e)) ty30 rfl (.there .here) (fun _ _ h => h) ?_)
       refine oV (v_eql rfl rfl) ?_
       refine rnf ?_
       refine w_condM h rfl (fun _ h => ?_) (fun _ h => ?_)
       ·
        refine wsr ?_
        refine oV (v_move rfl) ?_
        refine oV (v_nilCheck rfl) ?_
        refine oV (v_fa rfl pt113_0_1 fd113_1) ?_
        refine oT (t_loadC (R := vecv g188.2 (q188.2.2.l.length)) ty24 rfl (.there .here) isvV1 ?_)
        refine oV (v_move rfl) ?_
        refine oV (v_move rfl) ?_
        refine asd_inv h fun q328 h => ?_
        refine oV (v_vidx (α := GTyp) sl24 rfl rfl q328.1 q328.2) ?_
        refine oV (v_fv rfl GTyp.f4 fd58_4) ?_
        refine cal_inv h fun y329 hy329 h => ?_
        refine rl_upd (upd_slot 153 rfl (appv_isv)) ?_
        refine oT (t_vstore ty56 rfl rfl (.there (.there .here)) hy329 ?_)
        refine rl_upd (upd_box (y := ((q188.2.2.m, (Vh.mk g188.2 (q188.2.2.l.set a_i.toNat ({ y329 with fields := q188.1 })).length), q188.2.2.e) : (GMod × Vh × Int))) (.there (.there .here)) (fun S => (Cv.pair Cv.id (Cv.pair (Cv.vhe (by first | rfl | simp)) Cv.id)))) ?_
        refine rnf ?_
        refine wsr ?_
        refine oV (v_move rfl) ?_
        refine oV (v_move rfl) ?_
        refine oV (v_nilCheck rfl) ?_
        refine oV (v_fa rfl pt113_0_1 fd113_1) ?_
        refine oT (t_loadC (R := vecv g188.2 ((q188.2.2.l.set a_i.toNat ({ y329 with fields := q188.1 })).length)) ty24 rfl .here isvV1 ?_)
        refine oV (v_move rfl) ?_
        refine asd_inv h fun q330 h => ?_
        refine oV (v_vidx (α := GTyp) sl24 rfl rfl q330.1 q330.2) ?_
        refine cal_inv h fun y331 hy331 h => ?_
        refine oT (t_vload ty58 rfl (.there .here) hy331 ?_)
        refine cal_inv h fun y332 hy332 h => ?_
        refine oT (t_call (r10_maker_apart_w hy332) hT (.same rfl (.same rfl .nil)) (.cons .here (.cons .here .nil)) (fun R H' hR => ?_))
        obtain ⟨rfl, rfl⟩ := hR
        refine oV (v_not rfl) ?_
        refine rnf ?_
        refine w_condM h rfl (fun _ h => ?_) (fun _ h => ?_)
        ·
         refine w_region ?_
         refine oV (v_move rfl) ?_
         refine cal_inv h fun y333 hy333 h => ?_
         refine oT (t_call (r10_maker_fail_w hy333) hT (.same rfl (.same rfl .nil)) (.cons .here (.cons .here .nil)) (fun R H' hR => ?_))
         obtain ⟨rfl, rfl⟩ := hR
         refine rl_nil ?_
         refine fin_post .nil (.cons .here (.cons .here .nil)) ?_
         obtain rfl := Option.some.inj h
         exact ⟨g188.2, rfl, rfl⟩
        ·
         refine w_skip ?_
         refine fin_post .nil (.cons .here (.cons .here .nil)) ?_
         obtain rfl := Option.some.inj h
         exact ⟨g188.2, rfl, rfl⟩
       ·
        refine w_skip ?_
        refine fin_post .nil (.cons (.there .here) (.cons (.there .here) .nil)) ?_
        obtain rfl := Option.some.inj h
        exact ⟨g188.2, rfl, rfl⟩
     ·
      refine rl_condM (j := 68) h rfl (fun g264 h => ?_) (fun g264 h => ?_)
      ·
       refine op_take rfl rfl (dj := 68) rfl g264 (OpV.t (v_move rfl) ?_)
       refine op_take rfl rfl (dj := 68) rfl g264 (OpV.t (v_nilCheck rfl) ?_)
       refine op_take rfl rfl (dj := 68) rfl g264 (OpV.t (v_fa rfl pt113_0_2 fd113_2) ?_)
       refine op_take rfl rfl (dj := 68) rfl g264 (t_loadC (R := isv (q188.2.2.e)) ty30 rfl (.there .here) (fun _ _ h => h) ?_)
       refine op_take rfl rfl (dj := 68) rfl g264 (OpV.t (v_eql rfl rfl) ?_)
       refine oV (v_pick_t rfl g264 rfl) ?_
       exact hJ263 _ () h _ (join_imp 6 rfl rfl (mod_cons (j := 74) rfl (fun _ _ h => h) mod_nil) (.cons .here (.cons .here (.cons .here .nil))))
      ·
       refine op_pass rfl (dj := 68) rfl g264 ?_
       refine op_pass rfl (dj := 68) rfl g264 ?_
       refine op_pass rfl (dj := 68) rfl g264 ?_
       refine op_pass rfl (dj := 68) rfl g264 ?_
       refine op_pass rfl (dj := 68) rfl g264 ?_
       refine oV (v_pick_f rfl g264 rfl) ?_
       exact hJ263 _ () h _ (join_imp 6 rfl rfl (mod_cons (j := 74) rfl (fun _ _ h => h) mod_nil) (.cons .here (.cons .here (.cons .here .nil))))
    ·
     refine w_condM h rfl (fun _ h => ?_) (fun _ h => ?_)
     ·
      refine w_region ?_
      refine oV (v_move rfl) ?_
      refine cal_inv h fun y187 hy187 h => ?_
      refine oT (t_call (r10_maker_fail_w hy187) hT (.same rfl (.same rfl .nil)) (.cons .here (.cons .here .nil)) (fun R H' hR => ?_))
      obtain ⟨rfl, rfl⟩ := hR
      refine rl_nil ?_
      exact hJ186 _ () h _ (join_imp 2 rfl rfl mod_nil (.cons .here (.cons .here .nil)))
     ·
      refine w_skip ?_
      exact hJ186 _ () h _ (join_imp 0 rfl rfl mod_nil (.cons .here (.cons .here .nil)))
   ·
    refine rl_condM (j := 56) h rfl (fun g184 h => ?_) (fun g184 h => ?_)
    ·
     refine op_take rfl rfl (dj := 56) rfl g184 (OpV.t (v_fi rfl GNode.f7 fd133_7 rfl (z := a_n_.more)) ?_)
     refine op_take rfl rfl (dj := 56) rfl g184 (OpV.t (v_loadI ty4 rfl) ?_)
     refine op_take rfl rfl (dj := 56) rfl g184 (OpV.t (v_not rfl) ?_)
     refine oV (v_pick_t rfl g184 rfl) ?_
     exact hJ183 _ () h _ (join_imp 4 rfl rfl (mod_cons (j := 60) rfl (fun _ _ h => h) mod_nil) (.cons .here (.cons .here .nil)))
    ·
     refine op_pass rfl (dj := 56) rfl g184 ?_
     refine op_pass rfl (dj := 56) rfl g184 ?_
     refine op_pass rfl (dj := 56) rfl g184 ?_
     refine oV (v_pick_f rfl g184 rfl) ?_
     exact hJ183 _ () h _ (join_imp 4 rfl rfl (mod_cons (j := 60) rfl (fun _ _ h => h) mod_nil) (.cons .here (.cons .here .nil)))
  ·
   refine rl_condM (j := 50) h rfl (fun g181 h => ?_) (fun g181 h => ?_)
   ·
    refine op_take rfl rfl (dj := 50) rfl g181 (OpV.t (v_fi rfl GNode.f5 fd133_5 rfl (z := a_n_.fields)) ?_)
    refine op_take rfl rfl (dj := 50) rfl g181 (OpV.t (v_loadI ty56 rfl) ?_)
    refine op_take rfl rfl (dj := 50) rfl g181 (OpV.t (v_ln (l := a_n_.fields) rfl (fun _ _ h => h) sl56) ?_)
    refine op_take rfl rfl (dj := 50) rfl g181 (OpV.t (v_eql rfl rfl) ?_)
    refine oV (v_pick_t rfl g181 rfl) ?_
    exact hJ180 _ () h _ (join_imp 5 rfl rfl (mod_cons (j := 55) rfl (fun _ _ h => h) mod_nil) (.cons .here (.cons .here .nil)))
   ·
    refine op_pass rfl (dj := 50) rfl g181 ?_
    refine op_pass rfl (dj := 50) rfl g181 ?_
    refine op_pass rfl (dj := 50) rfl g181 ?_
    refine op_pass rfl (dj := 50) rfl g181 ?_
    refine oV (v_pick_f rfl g181 rfl) ?_
    exact hJ180 _ () h _ (join_imp 5 rfl rfl (mod_cons (j := 55) rfl (fun _ _ h => h) mod_nil) (.cons .here (.cons .here .nil)))

theorem r10_maker_node_w0 {r10_maker_fields' : GMk → Int → GNode → Int → Option (GMk)} {r10_maker_node' : GMk → Int → Int → Option (Int × GMk)} {r10_maker_made' : GMk → GNode → Int → Option (Int × GMk)} (h_r10_maker_fields : r10_maker_fields_C r10_maker_fields') (h_r10_maker_node : r10_maker_node_C r10_maker_node') (h_r10_maker_made : r10_maker_made_C r10_maker_made') : ∀ {a_x : GMk} {a_k : Int} {a_depth : Int} {b_a_x : Nat} {v_a_x1 : Vt} {r : Int × GMk}, r10_maker_node_F r10_maker_fields' r10_maker_node' r10_maker_made' a_x a_k a_depth = some r → Ctr Tryd.prog 58 [ptrv b_a_x (Fld.id (GMod × Vh × Int)), isv (a_k), isv (a_depth)] [boxE b_a_x ((a_x.m, (Vh.mk v_a_x1 a_x.l.length), a_x.e) : (GMod × Vh × Int)), vecE v_a_x1 (a_x.l : List GTyp)] (fun R H => ∃ u1 : Vt, R = oneOf [isv (r.1)] ∧ H = [boxE b_a_x ((r.2.m, (Vh.mk u1 r.2.l.length), r.2.e)), vecE u1 (r.2.l)]) := by
 intro a_x a_k a_depth b_a_x v_a_x1 r h
 unfold r10_maker_node_F at h
 refine spec_intro Tryd.func58 rfl (by decide +kernel) (by rfl) fun w0 S0 hT => ?_
 refine wsr ?_
 refine oV (v_assign rfl) ?_
 refine rnf ?_
 refine w_seq ?_
 refine wsr ?_
 refine oV (v_move rfl) ?_
 refine oV (v_nilCheck rfl) ?_
 refine oV (v_fa rfl pt113_0_2 fd113_2) ?_
 refine oT (t_loadC (R := isv (a_x.e)) ty30 rfl .here (fun _ _ h => h) ?_)
 refine oV (v_neq rfl rfl) ?_
 refine rnf ?_
 refine w_condM h rfl (fun _ h => ?_) (fun _ h => ?_)
 ·
  refine wsr ?_
  refine oV (v_assign rfl) ?_
  refine rnf ?_
  refine w_ret ?_
  refine ret_nxt ?_
  refine ret_post (.tmp rfl .nil) (.cons .here (.cons .here .nil)) ?_
  obtain rfl := Option.some.inj h
  exact ⟨v_a_x1, rfl, rfl⟩
 ·
  refine wkf ?_
  refine wsr ?_
  refine oV (v_move rfl) ?_
  refine oV (v_nilCheck rfl) ?_
  refine oV (v_fa rfl pt113_0_0 fd113_0) ?_
  refine oV (v_fa rfl GMod.f4 fd75_4) ?_
  refine oT (t_loadC (R := isv (a_x.m.nodes)) ty73 rfl .here (fun _ _ h => h) ?_)
  refine oV (v_move rfl) ?_
  refine cal_inv h fun y2 hy2 h => ?_
  refine oV (v_ix (l := a_x.m.nodes) rfl (fun _ _ h => h) rfl sl73 hy2) ?_
  refine oV (v_loadI ty133 rfl) ?_
  refine oT (t_alloc _ ze133 fun b3 => ?_)
  refine oT (t_storeC (y' := (y2 : GNode)) ty133 rfl rfl (fun _ _ h => h) .here rfl ?_)
  refine rl_upd (upd_imm 7 .here rfl) ?_
  refine rnf ?_
  refine wsr ?_
  refine oV (v_assign rfl) ?_
  refine rnf ?_
  refine w_seq ?_
  refine wsr ?_
  refine oV (v_fi rfl GNode.f0 fd133_0 rfl (z := y2.kind)) ?_
  refine oV (v_loadI ty3 rfl) ?_
  refine oV (v_eql rfl rfl) ?_
  refine rnf ?_
  refine w_J (ι := Int × GMk) (γ := Vt) (fun q4 g4 => [(8, isv (q4.1))]) (fun q4 g4 => [boxE b_a_x ((q4.2.m, (Vh.mk g4 q4.2.l.length), q4.2.e) : (GMod × Vh × Int)), vecE g4 (q4.2.l : List GTyp)]) (.cons .here (.cons .here .nil)) h (fun q4 g4 h => ?_) (fun J5 h hJ5 => ?_)
  ·
   refine w_seq ?_
   refine wsr ?_
   refine oV (v_move rfl) ?_
   refine oV (v_nilCheck rfl) ?_
   refine oV (v_fa rfl pt113_0_2 fd113_2) ?_
   refine oT (t_loadC (R := isv (q4.2.e)) ty30 rfl .here (fun _ _ h => h) ?_)
   refine oV (v_eql rfl rfl) ?_
   refine oV (v_move rfl) ?_
   refine rl_j (ι := Bool) (γ := Unit) (fun q14 g14 => [(56, isv (q14))]) (fun q14 g14 => []) .nil h 4 rfl (fun q14 g14 h => ?_) (fun J15 h hJ15 => ?_)
   ·
    refine rnf ?_
    refine w_J (ι := GMk) (γ := Unit) (fun q17 g17 => []) (fun q17 g17 => [boxE b_a_x ((q17.m, (Vh.mk g4 q17.l.length), q17.e) : (GMod × Vh × Int)), vecE g4 (q17.l : List GTyp)]) (.cons .here (.cons .here .nil)) h (fun q17 g17 h => ?_) (fun J18 h hJ18 => ?_)
    ·
     refine wsr ?_
     refine oV (v_move rfl) ?_
     refine oV (v_assign rfl) ?_
     refine rnf ?_
     refine w_ret ?_
     refine ret_post (.tmp rfl .nil) (.cons .here (.cons .here .nil)) ?_
     obtain rfl := Option.some.inj h
     exact ⟨g4, rfl, rfl⟩
    ·
     refine w_condM h rfl (fun _ h => ?_) (fun _ h => ?_)
     ·
      refine wsr ?_
      refine oV (v_assign rfl) ?_
      refine rnf ?_
      refine w_seq ?_
      refine w_J (ι := Int × GMk) (γ := Unit) (fun q19 g19 => [(9, isv (q19.1))]) (fun q19 g19 => [boxE b_a_x ((q19.2.m, (Vh.mk g4 q19.2.l.length), q19.2.e) : (GMod × Vh × Int)), vecE g4 (q19.2.l : List GTyp)]) (.cons .here (.cons .here .nil)) h (fun q19 g19 h => ?_) (fun J20 h hJ20 => ?_)
      ·
       refine w_region ?_
       refine oV (v_move rfl) ?_
       refine oV (v_move rfl) ?_
       refine oV (v_fi rfl GNode.f2 fd133_2 rfl (z := y2.mark)) ?_
       refine oV (v_fi rfl GMark.f1 fd131_1 rfl (z := y2.mark.number)) ?_
       refine oV (v_loadI ty3 rfl) ?_
       refine oV (v_move rfl) ?_
       refine cal_inv h fun y25 hy25 h => ?_
       refine oT (t_call (r10_maker_wrap_w hy25) hT (.same rfl (.same rfl (.same rfl (.same rfl .nil)))) (.cons .here (.cons .here .nil)) (fun R H' hR => ?_))
       obtain ⟨rfl, rfl⟩ := hR
       refine rl_nil ?_
       exact hJ18 _ () h _ (join_imp 9 rfl rfl mod_nil (.cons .here (.cons .here .nil)))
      ·
       refine w_block ?_
       refine wsr ?_
       refine oV (v_fi rfl GNode.f2 fd133_2 rfl (z := y2.mark)) ?_
       refine oV (v_fi rfl GMark.f2 fd131_2 rfl (z := y2.mark.mode)) ?_
       refine oV (v_loadI ty3 rfl) ?_
       refine oV (v_eql rfl rfl) ?_
       refine oV (v_assign rfl) ?_
       refine rnf ?_
       refine w_condM h rfl (fun _ h => ?_) (fun _ h => ?_)
       ·
        refine w_region ?_
        refine oV (v_assign rfl) ?_
        refine rl_nil ?_
        refine fin_block ?_
        exact hJ20 _ () h _ (join_imp 6 rfl rfl (mod_cons (j := 9) rfl (fun _ _ h => h) mod_nil) (.cons .here (.cons .here .nil)))
       ·
        refine wsr ?_
        refine oV (v_fi rfl GNode.f2 fd133_2 rfl (z := y2.mark)) ?_
        refine oV (v_fi rfl GMark.f2 fd131_2 rfl (z := y2.mark.mode)) ?_
        refine oV (v_loadI ty3 rfl) ?_
        refine oV (v_eql rfl rfl) ?_
        refine oV (v_move rfl) ?_
        refine rl_j (ι := Bool) (γ := Unit) (fun q21 g21 => [(74, isv (q21))]) (fun q21 g21 => []) .nil h 7 rfl (fun q21 g21 h => ?_) (fun J22 h hJ22 => ?_)
        ·
         refine oV (v_assign rfl) ?_
         refine rnf ?_
         refine w_condM h rfl (fun _ h => ?_) (fun _ h => ?_)
         ·
          refine w_region ?_
          refine oV (v_move rfl) ?_
          refine oV (v_move rfl) ?_
          refine cal_inv h fun y24 hy24 h => ?_
          refine oT (t_call (r10_maker_soft_w hy24) hT (.same rfl (.same rfl .nil)) (.cons .here (.cons .here .nil)) (fun R H' hR => ?_))
          obtain ⟨rfl, rfl⟩ := hR
          refine oV (v_assign rfl) ?_
          refine rl_nil ?_
          refine fin_block ?_
          exact hJ20 _ () h _ (join_imp 16 rfl rfl (mod_cons (j := 9) rfl (fun _ _ h => h) mod_nil) (.cons .here (.cons .here .nil)))
         ·
          refine w_skip ?_
          refine fin_block ?_
          exact hJ20 _ () h _ (join_imp 12 rfl rfl (mod_cons (j := 9) rfl (fun _ _ h => h) mod_nil) (.cons .here (.cons .here .nil)))
        ·
         refine rl_condM (j := 67) h rfl (fun g23 h => ?_) (fun g23 h => ?_)
         ·
          refine op_take rfl rfl (dj := 67) rfl g23 (OpV.t (v_move rfl) ?_)
          refine op_take rfl rfl (dj := 67) rfl g23 (OpV.t (v_nilCheck rfl) ?_)
          refine op_take rfl rfl (dj := 67) rfl g23 (OpV.t (v_fa rfl pt113_0_0 fd113_0) ?_)
          refine op_take rfl rfl (dj := 67) rfl g23 (OpV.t (v_fa rfl GMod.f1 fd75_1) ?_)
          refine op_take rfl rfl (dj := 67) rfl g23 (t_loadC (R := isv (q4.2.m.tagging)) ty3 rfl .here (fun _ _ h => h) ?_)
          refine op_take rfl rfl (dj := 67) rfl g23 (OpV.t (v_neq rfl rfl) ?_)
          refine oV (v_pick_t rfl g23 rfl) ?_
          exact hJ22 _ () h _ (join_imp 7 rfl rfl (mod_cons (j := 74) rfl (fun _ _ h => h) mod_nil) (.cons .here (.cons .here .nil)))
         ·
          refine op_pass rfl (dj := 67) rfl g23 ?_
          refine op_pass rfl (dj := 67) rfl g23 ?_
          refine op_pass rfl (dj := 67) rfl g23 ?_
          refine op_pass rfl (dj := 67) rfl g23 ?_
          refine op_pass rfl (dj := 67) rfl g23 ?_
          refine op_pass rfl (dj := 67) rfl g23 ?_
          refine oV (v_pick_f rfl g23 rfl) ?_
          exact hJ22 _ () h _ (join_imp 7 rfl rfl (mod_cons (j := 74) rfl (fun _ _ h => h) mod_nil) (.cons .here (.cons .here .nil)))
     ·
      refine w_skip ?_
      exact hJ18 _ () h _ (join_imp 0 rfl rfl mod_nil (.cons .here (.cons .here .nil)))
   ·
    refine rl_condM (j := 52) h rfl (fun g16 h => ?_) (fun g16 h => ?_)
    ·
     refine op_take rfl rfl (dj := 52) rfl g16 (OpV.t (v_fi rfl GNode.f2 fd133_2 rfl (z := y2.mark)) ?_)
     refine op_take rfl rfl (dj := 52) rfl g16 (OpV.t (v_fi rfl GMark.f0 fd131_0 rfl (z := y2.mark.has)) ?_)
     refine op_take rfl rfl (dj := 52) rfl g16 (OpV.t (v_loadI ty4 rfl) ?_)
     refine oV (v_pick_t rfl g16 rfl) ?_
     exact hJ15 _ () h _ (join_imp 4 rfl rfl (mod_cons (j := 56) rfl (fun _ _ h => h) mod_nil) (.cons .here (.cons .here .nil)))
    ·
     refine op_pass rfl (dj := 52) rfl g16 ?_
     refine op_pass rfl (dj := 52) rfl g16 ?_
     refine op_pass rfl (dj := 52) rfl g16 ?_
     refine oV (v_pick_f rfl g16 rfl) ?_
     exact hJ15 _ () h _ (join_imp 4 rfl rfl (mod_cons (j := 56) rfl (fun _ _ h => h) mod_nil) (.cons .here (.cons .here .nil)))
  ·
   refine w_condM h rfl (fun _ h => ?_) (fun _ h => ?_)
   ·
    refine w_regionD (.v 0 (.v 1 (.v 2 (.v 3 (.v 4 (.v 6 (.v 7 (.v 8 (.v 10 (.v 11 (.v 15 (.alt 5 (.t 9 (.t 12 (.v 13 (.v 14 (.t 16 (.v 17 .nil)))))) (.t 9 (.alt 5 (.t 12 (.v 13 (.v 14 (.t 16 (.v 17 .nil))))) (.t 12 (.t 5 (.v 13 (.v 14 (.t 16 (.v 17 .nil)))))))))))))))))))) moOrd (by kernel_rfl) ?_
    refine rd_v rfl (v_move rfl) ?_
    refine rd_v rfl (v_move rfl) ?_
    refine rd_v rfl (v_nilCheck rfl) ?_
    refine rd_v rfl (v_fa rfl pt113_0_0 fd113_0) ?_
    refine rd_v rfl (v_fa rfl GMod.f3 fd75_3) ?_
    refine rd_v rfl (v_move rfl) ?_
    refine rd_v rfl (v_nilCheck rfl) ?_
    refine rd_v rfl (v_fa rfl pt113_0_0 fd113_0) ?_
    refine rd_v rfl (v_fi rfl GNode.f1 fd133_1 rfl (z := y2.name)) ?_
    refine rd_v rfl (v_loadI ty9 rfl) ?_
    refine rd_v rfl (v_move rfl) ?_
    refine cal_inv h fun y6 hy6 h => ?_
    refine cal_inv h fun y7 hy7 h => ?_
    refine cal_inv h fun y8 hy8 h => ?_
    refine rd_two ?_ ?_
    ·
     refine rd_t rfl rfl (t_loadC (R := isv (a_x.m.types)) ty23 rfl .here (fun _ _ h => h) ?_)
     refine rd_t rfl rfl (t_loadC (R := isv (a_x.m)) ty75 rfl .here (fun _ _ h => h) ?_)
     refine rd_t rfl rfl (t_call (r07_Find_w hy6) hT (.same rfl (.same rfl .nil)) .nil (fun R H' hR => ?_))
     obtain ⟨rfl, rfl⟩ := hR
     refine rd_v rfl (v_ix (l := a_x.m.types) rfl (fun _ _ h => h) rfl sl23 hy7) ?_
     refine rd_v rfl (v_loadI ty3 rfl) ?_
     refine rd_t rfl rfl (t_call (h_r10_maker_node hy8) hT (.same rfl (.same rfl (.same rfl .nil))) (.cons .here (.cons .here .nil)) (fun R H' hR => ?_))
     obtain ⟨v9, rfl, rfl⟩ := hR
     refine rd_v rfl (v_assign rfl) ?_
     refine rd_nil ?_
     exact hJ5 _ (v9) h _ (join_imp 18 rfl rfl (mod_cons (j := 8) rfl (fun _ _ h => h) mod_nil) (.cons .here (.cons .here .nil)))
    ·
     refine rd_t rfl rfl (t_loadC (R := isv (a_x.m)) ty75 rfl .here (fun _ _ h => h) ?_)
     refine rd_two ?_ ?_
     ·
      refine rd_t rfl rfl (t_loadC (R := isv (a_x.m.types)) ty23 rfl .here (fun _ _ h => h) ?_)
      refine rd_t rfl rfl (t_call (r07_Find_w hy6) hT (.same rfl (.same rfl .nil)) .nil (fun R H' hR => ?_))
      obtain ⟨rfl, rfl⟩ := hR
      refine rd_v rfl (v_ix (l := a_x.m.types) rfl (fun _ _ h => h) rfl sl23 hy7) ?_
      refine rd_v rfl (v_loadI ty3 rfl) ?_
      refine rd_t rfl rfl (t_call (h_r10_maker_node hy8) hT (.same rfl (.same rfl (.same rfl .nil))) (.cons .here (.cons .here .nil)) (fun R H' hR => ?_))
      obtain ⟨v10, rfl, rfl⟩ := hR
      refine rd_v rfl (v_assign rfl) ?_
      refine rd_nil ?_
      exact hJ5 _ (v10) h _ (join_imp 18 rfl rfl (mod_cons (j := 8) rfl (fun _ _ h => h) mod_nil) (.cons .here (.cons .here .nil)))
     ·
      refine rd_t rfl rfl (t_call (r07_Find_w hy6) hT (.same rfl (.same rfl .nil)) .nil (fun R H' hR => ?_))
      obtain ⟨rfl, rfl⟩ := hR
      refine rd_t rfl rfl (t_loadC (R := isv (a_x.m.types)) ty23 rfl .here (fun _ _ h => h) ?_)
      refine rd_v rfl (v_ix (l := a_x.m.types) rfl (fun _ _ h => h) rfl sl23 hy7) ?_
      refine rd_v rfl (v_loadI ty3 rfl) ?_
      refine rd_t rfl rfl (t_call (h_r10_maker_node hy8) hT (.same rfl (.same rfl (.same rfl .nil))) (.cons .here (.cons .here .nil)) (fun R H' hR => ?_))
      obtain ⟨v11, rfl, rfl⟩ := hR
      refine rd_v rfl (v_assign rfl) ?_
      refine rd_nil ?_
      exact hJ5 _ (v11) h _ (join_imp 18 rfl rfl (mod_cons (j := 8) rfl (fun _ _ h => h) mod_nil) (.cons .here (.cons .here .nil)))
   ·
    refine w_region ?_
    refine oV (v_move rfl) ?_
    refine oV (v_loadI ty133 rfl) ?_
    refine oV (v_move rfl) ?_
    refine cal_inv h fun y12 hy12 h => ?_
    refine oT (t_call (h_r10_maker_made hy12) hT (.same rfl (.same rfl (.same rfl .nil))) (.cons .here (.cons .here .nil)) (fun R H' hR => ?_))
    obtain ⟨v13, rfl, rfl⟩ := hR
    refine oV (v_assign rfl) ?_
    refine rl_nil ?_
    exact hJ5 _ (v13) h _ (join_imp 5 rfl rfl (mod_cons (j := 8) rfl (fun _ _ h => h) mod_nil) (.cons .here (.cons .here .nil)))

theorem r10_maker_made_w0 {r10_maker_fields' : GMk → Int → GNode → Int → Option (GMk)} {r10_maker_node' : GMk → Int → Int → Option (Int × GMk)} {r10_maker_made' : GMk → GNode → Int → Option (Int × GMk)} (h_r10_maker_fields : r10_maker_fields_C r10_maker_fields') (h_r10_maker_node : r10_maker_node_C r10_maker_node') (h_r10_maker_made : r10_maker_made_C r10_maker_made') : ∀ {a_x : GMk} {a_n_ : GNode} {a_depth : Int} {b_a_x : Nat} {v_a_x1 : Vt} {r : Int × GMk}, r10_maker_made_F r10_maker_fields' r10_maker_node' r10_maker_made' a_x a_n_ a_depth = some r → Ctr Tryd.prog 85 [ptrv b_a_x (Fld.id (GMod × Vh × Int)), isv (a_n_), isv (a_depth)] [boxE b_a_x ((a_x.m, (Vh.mk v_a_x1 a_x.l.length), a_x.e) : (GMod × Vh × Int)), vecE v_a_x1 (a_x.l : List GTyp)] (fun R H => ∃ u1 : Vt, R = oneOf [isv (r.1)] ∧ H = [boxE b_a_x ((r.2.m, (Vh.mk u1 r.2.l.length), r.2.e)), vecE u1 (r.2.l)]) := by
 intro a_x a_n_ a_depth b_a_x v_a_x1 r h
 unfold r10_maker_made_F at h
 refine spec_intro Tryd.func85 rfl (by decide +kernel) (by rfl) fun w0 S0 hT => ?_
 refine wsr ?_
 refine oT (t_boxIC (y := a_n_) rfl (fun _ _ h => h) ?_)
 refine oV (v_assign rfl) ?_
 refine rnf ?_
 refine w_seq ?_
 refine wsr ?_
 refine oV (v_move rfl) ?_
 refine oV (v_gtr rfl rfl) ?_
 refine oV (v_move rfl) ?_
 refine rl_j (ι := Bool) (γ := Unit) (fun q2 g2 => [(20, isv (q2))]) (fun q2 g2 => []) .nil h 7 rfl (fun q2 g2 h => ?_) (fun J3 h hJ3 => ?_)
 ·
  refine rnf ?_
  refine w_condM h rfl (fun _ h => ?_) (fun _ h => ?_)
  ·
   refine wsr ?_
   refine oV (v_move rfl) ?_
   refine cal_inv h fun y5 hy5 h => ?_
   refine oT (t_call (r10_maker_fail_w hy5) hT (.same rfl (.same rfl .nil)) (.cons .here (.cons .here .nil)) (fun R H' hR => ?_))
   obtain ⟨rfl, rfl⟩ := hR
   refine rnf ?_
   refine wsr ?_
   refine oV (v_assign rfl) ?_
   refine rnf ?_
   refine w_ret ?_
   refine ret_nxt ?_
   refine ret_post (.tmp rfl .nil) (.cons .here (.cons .here .nil)) ?_
   obtain rfl := Option.some.inj h
   exact ⟨v_a_x1, rfl, rfl⟩
  ·
   refine wkf ?_
   refine wsr ?_
   refine oV (v_move rfl) ?_
   refine oV (v_nilCheck rfl) ?_
   refine oV (v_fa rfl pt113_0_1 fd113_1) ?_
   refine oT (t_loadC (R := vecv v_a_x1 (a_x.l.length)) ty24 rfl .here isvV1 ?_)
   refine oV (v_vlen sl24 rfl) ?_
   refine oV (v_assign rfl) ?_
   refine rnf ?_
   refine wsr ?_
   refine oV (v_fi rfl GNode.f0 fd133_0 rfl (z := a_n_.kind)) ?_
   refine oV (v_loadI ty3 rfl) ?_
   refine oV (v_fi rfl GNode.f3 fd133_3 rfl (z := a_n_.con)) ?_
   refine oV (v_loadI ty54 rfl) ?_
   refine oV (v_fi rfl GNode.f6 fd133_6 rfl (z := a_n_.root)) ?_
   refine oV (v_loadI ty3 rfl) ?_
   refine oV (v_fi rfl GNode.f7 fd133_7 rfl (z := a_n_.more)) ?_
   refine oV (v_loadI ty4 rfl) ?_
   refine oV (v_build (z := (GTyp.mk a_n_.kind ([] : (List Tag)) a_n_.con ([] : (List GItem)) ([] : (List GFld)) a_n_.root a_n_.more (0 : Int))) rfl bu58 ze58 (.cons GTyp.f0 fd58_0 rfl (fun _ _ h => h) (.cons GTyp.f2 fd58_2 rfl (fun _ _ h => h) (.cons GTyp.f5 fd58_5 rfl (fun _ _ h => h) (.cons GTyp.f6 fd58_6 rfl (fun _ _ h => h) .nil))))) ?_
   refine oT (t_alloc _ ze58 fun b6 => ?_)
   refine oT (t_storeC (y' := ((GTyp.mk a_n_.kind ([] : (List Tag)) a_n_.con ([] : (List GItem)) ([] : (List GFld)) a_n_.root a_n_.more (0 : Int)) : GTyp)) ty58 rfl rfl (fun _ _ h => h) .here rfl ?_)
   refine rnf ?_
   refine w_seq ?_
   refine wsr ?_
   refine oV (v_fi rfl GNode.f0 fd133_0 rfl (z := a_n_.kind)) ?_
   refine oV (v_loadI ty3 rfl) ?_
   refine oV (v_neq rfl rfl) ?_
   refine rnf ?_
   refine w_J (ι := GTyp) (γ := Unit) (fun q7 g7 => []) (fun q7 g7 => [boxE b6 (q7 : GTyp)]) (.cons .here .nil) h (fun q7 g7 h => ?_) (fun J8 h hJ8 => ?_)
   ·
    refine w_seq ?_
    refine w_J (ι := GMk) (γ := Vt) (fun q11 g11 => [(8, anyv)]) (fun q11 g11 => [boxE b_a_x ((q11.m, (Vh.mk g11 q11.l.length), q11.e) : (GMod × Vh × Int)), vecE g11 (q11.l : List GTyp)]) (.cons (.there .here) (.cons (.there .here) .nil)) h (fun q11 g11 h => ?_) (fun J12 h hJ12 => ?_)
    ·
     refine w_seq ?_
     refine wsr ?_
     refine oV (v_fi rfl GNode.f0 fd133_0 rfl (z := a_n_.kind)) ?_
     refine oV (v_loadI ty3 rfl) ?_
     refine rnf ?_
     refine w_J (ι := GMk) (γ := Vt) (fun q20 g20 => []) (fun q20 g20 => [boxE b_a_x ((q20.m, (Vh.mk g20 q20.l.length), q20.e) : (GMod × Vh × Int)), vecE g20 (q20.l : List GTyp)]) (.cons .here (.cons .here .nil)) h (fun q20 g20 h => ?_) (fun J21 h hJ21 => ?_)
     ·
      refine wsr ?_
      refine oV (v_move rfl) ?_
      refine oV (v_assign rfl) ?_
      refine rnf ?_
      refine w_ret ?_
      refine ret_post (.tmp rfl .nil) (.cons .here (.cons .here .nil)) ?_
      obtain rfl := Option.some.inj h
      exact ⟨g20, rfl, rfl⟩
     ·
      refine w_block ?_
      refine w_seq ?_
      refine wsr ?_
      refine oV (v_eql rfl rfl) ?_
      refine oV (v_assign rfl) ?_
      refine rnf ?_
      refine w_J (ι := Bool) (γ := Unit) (fun q22 g22 => [(57, isv (q22))]) (fun q22 g22 => []) .nil h (fun q22 g22 h => ?_) (fun J23 h hJ23 => ?_)
      ·
       refine w_condM h rfl (fun _ h => ?_) (fun _ h => ?_)
       ·
        refine wsr ?_
        refine oV (v_fi rfl GNode.f3 fd133_3 rfl (z := a_n_.con)) ?_
        refine oV (v_loadI ty54 rfl) ?_
        refine oV (v_fi rfl GNode.f0 fd133_0 rfl (z := a_n_.kind)) ?_
        refine oV (v_loadI ty3 rfl) ?_
        refine oV (v_neq rfl rfl) ?_
        refine cal_inv h fun y24 hy24 h => ?_
        refine oT (t_call (r08_Check_w hy24) hT (.same rfl (.same rfl .nil)) .nil (fun R H' hR => ?_))
        obtain ⟨rfl, rfl⟩ := hR
        refine oV (v_assign rfl) ?_
        refine rnf ?_
        refine w_seq ?_
        refine wsr ?_
        refine oV (v_move rfl) ?_
        refine oV (v_neq rfl rfl) ?_
        refine rnf ?_
        refine w_J (ι := GMk) (γ := Unit) (fun q25 g25 => []) (fun q25 g25 => [boxE b_a_x ((q25.m, (Vh.mk g11 q25.l.length), q25.e) : (GMod × Vh × Int)), vecE g11 (q25.l : List GTyp)]) (.cons .here (.cons .here .nil)) h (fun q25 g25 h => ?_) (fun J26 h hJ26 => ?_)
        ·
         refine wsr ?_
         refine oV (v_fi rfl GNode.f0 fd133_0 rfl (z := a_n_.kind)) ?_
         refine oV (v_loadI ty3 rfl) ?_
         refine oV (v_eql rfl rfl) ?_
         refine rnf ?_
         refine w_condM h rfl (fun _ h => ?_) (fun _ h => ?_)
         ·
          refine wsr ?_
          refine oV (v_move rfl) ?_
          refine oV (v_fi rfl GNode.f8 fd133_8 rfl (z := a_n_.of)) ?_
          refine oV (v_loadI ty3 rfl) ?_
          refine oV (v_move rfl) ?_
          refine ck_inv h fun q28 h => ?_
          refine oV (v_add rfl rfl q28) ?_
          refine cal_inv h fun y29 hy29 h => ?_
          refine oT (t_call (h_r10_maker_node hy29) hT (.same rfl (.same rfl (.same rfl .nil))) (.cons .here (.cons .here .nil)) (fun R H' hR => ?_))
          obtain ⟨v30, rfl, rfl⟩ := hR
          refine oV (v_assign rfl) ?_
          refine rnf ?_
          refine wsr ?_
          refine oV (v_move rfl) ?_
          refine oV (v_nilCheck rfl) ?_
          refine oV (v_fa rfl pt113_0_2 fd113_2) ?_
          refine oT (t_loadC (R := isv (y29.2.e)) ty30 rfl .here (fun _ _ h => h) ?_)
          refine oV (v_eql rfl rfl) ?_
          refine rnf ?_
          refine w_condM h rfl (fun _ h => ?_) (fun _ h => ?_)
          ·
           refine w_region ?_
           refine oV (v_move rfl) ?_
           refine oV (v_nilCheck rfl) ?_
           refine oV (v_fa rfl pt113_0_1 fd113_1) ?_
           refine oT (t_loadC (R := vecv v30 (y29.2.l.length)) ty24 rfl .here isvV1 ?_)
           refine oV (v_move rfl) ?_
           refine oV (v_move rfl) ?_
           refine asd_inv h fun q31 h => ?_
           refine oV (v_vidx (α := GTyp) sl24 rfl rfl q31.1 q31.2) ?_
           refine oV (v_fv rfl GTyp.f7 fd58_7) ?_
           refine cal_inv h fun y32 hy32 h => ?_
           refine oT (t_vstore ty3 rfl rfl (.there .here) hy32 ?_)
           refine rl_upd (upd_box (y := ((y29.2.m, (Vh.mk v30 (y29.2.l.set (((a_x.l.length : Nat) : Int).toNat) ({ y32 with of := y29.1 })).length), y29.2.e) : (GMod × Vh × Int))) (.there .here) (fun S => (Cv.pair Cv.id (Cv.pair (Cv.vhe (by first | rfl | simp)) Cv.id)))) ?_
           refine rl_nil ?_
           refine fin_block ?_
           exact hJ21 _ (v30) h _ (join_imp 35 rfl rfl mod_nil (.cons .here (.cons .here (.cons .here .nil))))
          ·
           refine w_skip ?_
           refine fin_block ?_
           exact hJ21 _ (v30) h _ (join_imp 27 rfl rfl mod_nil (.cons .here (.cons .here (.cons .here .nil))))
         ·
          refine w_skip ?_
          refine fin_block ?_
          exact hJ21 _ (g11) h _ (join_imp 15 rfl rfl mod_nil (.cons .here (.cons .here (.cons .here .nil))))
        ·
         refine w_condM h rfl (fun _ h => ?_) (fun _ h => ?_)
         ·
          refine w_region ?_
          refine oV (v_move rfl) ?_
          refine oV (v_move rfl) ?_
          refine cal_inv h fun y27 hy27 h => ?_
          refine oT (t_call (r10_maker_fail_w hy27) hT (.same rfl (.same rfl .nil)) (.cons .here (.cons .here .nil)) (fun R H' hR => ?_))
          obtain ⟨rfl, rfl⟩ := hR
          refine rl_nil ?_
          exact hJ26 _ () h _ (join_imp 3 rfl rfl mod_nil (.cons .here (.cons .here (.cons .here .nil))))
         ·
          refine w_skip ?_
          exact hJ26 _ () h _ (join_imp 0 rfl rfl mod_nil (.cons .here (.cons .here (.cons .here .nil))))
       ·
        refine wsr ?_
        refine oV (v_eql rfl rfl) ?_
        refine oV (v_assign rfl) ?_
        refine rnf ?_
        refine w_condM h rfl (fun _ h => ?_) (fun _ h => ?_)
        ·
         refine w_regionD (.v 0 (.v 1 (.v 2 (.v 4 (.v 5 (.v 6 (.alt 3 (.t 7 (.v 8 (.v 9 (.t 10 .nil)))) (.t 7 (.t 3 (.v 8 (.v 9 (.t 10 .nil)))))))))))) moOrd (by kernel_rfl) ?_
         refine rd_v rfl (v_move rfl) ?_
         refine rd_v rfl (v_nilCheck rfl) ?_
         refine rd_v rfl (v_fa rfl pt113_0_1 fd113_1) ?_
         refine rd_v rfl (v_move rfl) ?_
         refine rd_v rfl (v_move rfl) ?_
         refine rd_v rfl (v_loadI ty133 rfl) ?_
         refine cal_inv h fun y33 hy33 h => ?_
         refine asd_inv h fun q34 h => ?_
         refine asd_inv h fun q35 h => ?_
         refine cal_inv h fun y36 hy36 h => ?_
         refine rd_two ?_ ?_
         ·
          refine rd_t rfl rfl (t_loadC (R := vecv g11 (q11.l.length)) ty24 rfl .here isvV1 ?_)
          refine rd_t rfl rfl (t_call (r10_maker_items_w hy33) hT (.same rfl (.same rfl .nil)) (.cons .here (.cons .here .nil)) (fun R H' hR => ?_))
          obtain ⟨rfl, rfl⟩ := hR
          refine rd_v rfl (v_vidx (α := GTyp) sl24 rfl rfl q35.1 q35.2) ?_
          refine rd_v rfl (v_fv rfl GTyp.f3 fd58_3) ?_
          refine rd_t rfl rfl (t_vstore ty55 rfl rfl (.there .here) hy36 ?_)
          refine rd_upd (upd_box (y := ((y33.2.m, (Vh.mk g11 (y33.2.l.set (((a_x.l.length : Nat) : Int).toNat) ({ y36 with items := y33.1 })).length), y33.2.e) : (GMod × Vh × Int))) (.there .here) (fun S => (Cv.pair Cv.id (Cv.pair (Cv.vhe (by first | rfl | simp)) Cv.id)))) ?_
          refine rd_nil ?_
          refine fin_block ?_
          exact hJ21 _ (g11) h _ (join_imp 15 rfl rfl mod_nil (.cons .here (.cons .here (.cons .here .nil))))
         ·
          refine rd_t rfl rfl (t_call (r10_maker_items_w hy33) hT (.same rfl (.same rfl .nil)) (.cons .here (.cons .here .nil)) (fun R H' hR => ?_))
          obtain ⟨rfl, rfl⟩ := hR
          refine rd_t rfl rfl (t_loadC (R := vecv g11 (y33.2.l.length)) ty24 rfl .here isvV1 ?_)
          refine rd_v rfl (v_vidx (α := GTyp) sl24 rfl rfl (by omega) (by omega)) ?_
          refine rd_v rfl (v_fv rfl GTyp.f3 fd58_3) ?_
          refine rd_t rfl rfl (t_vstore ty55 rfl rfl (.there .here) hy36 ?_)
          refine rd_upd (upd_box (y := ((y33.2.m, (Vh.mk g11 (y33.2.l.set (((a_x.l.length : Nat) : Int).toNat) ({ y36 with items := y33.1 })).length), y33.2.e) : (GMod × Vh × Int))) (.there .here) (fun S => (Cv.pair Cv.id (Cv.pair (Cv.vhe (by first | rfl | simp)) Cv.id)))) ?_
          refine rd_nil ?_
          refine fin_block ?_
          exact hJ21 _ (g11) h _ (join_imp 15 rfl rfl mod_nil (.cons .here (.cons .here (.cons .here .nil))))
        ·
         refine w_seq ?_
         refine wsr ?_
         refine oV (v_eql rfl rfl) ?_
         refine oV (v_assign rfl) ?_
         refine rnf ?_
         refine w_J (ι := Bool) (γ := Unit) (fun q37 g37 => [(107, isv (q37))]) (fun q37 g37 => []) .nil h (fun q37 g37 h => ?_) (fun J38 h hJ38 => ?_)
         ·
          refine w_condM h rfl (fun _ h => ?_) (fun _ h => ?_)
          ·
           refine w_region ?_
           refine oV (v_move rfl) ?_
           refine oV (v_move rfl) ?_
           refine oV (v_loadI ty133 rfl) ?_
           refine oV (v_move rfl) ?_
           refine cal_inv h fun y39 hy39 h => ?_
           refine oT (t_call (h_r10_maker_fields hy39) hT (.same rfl (.same rfl (.same rfl (.same rfl .nil)))) (.cons .here (.cons .here .nil)) (fun R H' hR => ?_))
           obtain ⟨v40, rfl, rfl⟩ := hR
           refine rl_nil ?_
           refine fin_block ?_
           exact hJ21 _ (v40) h _ (join_imp 13 rfl rfl mod_nil (.cons .here (.cons .here (.cons .here .nil))))
          ·
           refine w_skip ?_
           refine fin_block ?_
           exact hJ21 _ (g11) h _ (join_imp 8 rfl rfl mod_nil (.cons .here (.cons .here (.cons .here .nil))))
         ·
          refine w_condM h rfl (fun _ h => ?_) (fun _ h => ?_)
          ·
           refine w_skip ?_
           exact hJ38 _ () h _ (join_imp 0 rfl rfl (mod_cons (j := 107) rfl (fun _ _ h => h) mod_nil) (.cons .here (.cons .here (.cons .here .nil))))
          ·
           refine wsr ?_
           refine oV (v_eql rfl rfl) ?_
           refine oV (v_assign rfl) ?_
           refine rnf ?_
           refine w_condM h rfl (fun _ h => ?_) (fun _ h => ?_)
           ·
            refine w_skip ?_
            exact hJ38 _ () h _ (join_imp 2 rfl rfl (mod_cons (j := 107) rfl (fun _ _ h => h) mod_nil) (.cons .here (.cons .here (.cons .here .nil))))
           ·
            refine w_region ?_
            refine oV (v_eql rfl rfl) ?_
            refine oV (v_assign rfl) ?_
            refine rl_nil ?_
            exact hJ38 _ () h _ (join_imp 4 rfl rfl (mod_cons (j := 107) rfl (fun _ _ h => h) mod_nil) (.cons .here (.cons .here (.cons .here .nil))))
      ·
       refine w_condM h rfl (fun _ h => ?_) (fun _ h => ?_)
       ·
        refine w_skip ?_
        exact hJ23 _ () h _ (join_imp 0 rfl rfl (mod_cons (j := 57) rfl (fun _ _ h => h) mod_nil) (.cons .here (.cons .here (.cons .here .nil))))
       ·
        refine wsr ?_
        refine oV (v_eql rfl rfl) ?_
        refine oV (v_assign rfl) ?_
        refine rnf ?_
        refine w_condM h rfl (fun _ h => ?_) (fun _ h => ?_)
        ·
         refine w_skip ?_
         exact hJ23 _ () h _ (join_imp 2 rfl rfl (mod_cons (j := 57) rfl (fun _ _ h => h) mod_nil) (.cons .here (.cons .here (.cons .here .nil))))
        ·
         refine wsr ?_
         refine oV (v_eql rfl rfl) ?_
         refine oV (v_assign rfl) ?_
         refine rnf ?_
         refine w_condM h rfl (fun _ h => ?_) (fun _ h => ?_)
         ·
          refine w_skip ?_
          exact hJ23 _ () h _ (join_imp 4 rfl rfl (mod_cons (j := 57) rfl (fun _ _ h => h) mod_nil) (.cons .here (.cons .here (.cons .here .nil))))
         ·
          refine w_region ?_
          refine oV (v_eql rfl rfl) ?_
          refine oV (v_assign rfl) ?_
          refine rl_nil ?_
          exact hJ23 _ () h _ (join_imp 6 rfl rfl (mod_cons (j := 57) rfl (fun _ _ h => h) mod_nil) (.cons .here (.cons .here (.cons .here .nil))))
    ·
     refine w_pinN 8 .here rfl (fun o13 hn14 => ?_)
     refine w_regionD (.v 0 (.v 1 (.v 2 (.v 3 (.v 5 (.alt 4 (.t 6 (.t 7 (.v 8 (.v 9 (.t 10 .nil))))) (.t 6 (.t 4 (.t 7 (.v 8 (.v 9 (.t 10 .nil)))))))))))) moOrd (by kernel_rfl) ?_
     refine rd_v rfl (v_move rfl) ?_
     refine rd_v rfl (v_move rfl) ?_
     refine rd_v rfl (v_nilCheck rfl) ?_
     refine rd_v rfl (v_fa rfl pt113_0_1 fd113_1) ?_
     refine rd_v rfl (v_lpC (R := isv (q7)) ty58 rfl (List.Mem.head _) (fun _ _ h => h)) ?_
     refine asr_inv h fun q17 h => ?_
     refine rd_two ?_ ?_
     ·
      refine rd_t rfl rfl (t_loadC (R := vecv v_a_x1 (a_x.l.length)) ty24 rfl .here isvV1 ?_)
      refine rd_t rfl rfl (t_buildSlice (l := ([q7] : (List GTyp))) el24 (.cons rfl (fun _ _ h => h) .nil) rfl rfl ?_)
      refine rd_t rfl rfl (t_vappF (m := ([q7] : (List GTyp))) ap24_24 rfl rfl appv_isv (.there .here) (by first | rfl | simp) q17 fun v16 => ?_)
      refine rd_v rfl (v_nilCheck rfl) ?_
      refine rd_v rfl (v_fa rfl pt113_0_1 fd113_1) ?_
      refine rd_t rfl rfl (t_storeC (y' := ((a_x.m, (Vh.mk v16 (a_x.l ++ ([q7] : (List GTyp))).length), a_x.e) : (GMod × Vh × Int))) ty24 rfl rfl isvV2 (.there .here) rfl ?_)
      refine rd_nil ?_
      refine fin_unpinN 8 hn14 rfl ?_
      exact hJ12 _ (v16) h _ (join_imp 12 rfl rfl (mod_cons (j := 8) rfl (fun _ _ _ => trivial) mod_nil) (.cons (.there .here) (.cons (.there .here) (.cons .here .nil))))
     ·
      refine rd_t rfl rfl (t_buildSlice (l := ([q7] : (List GTyp))) el24 (.cons rfl (fun _ _ h => h) .nil) rfl rfl ?_)
      refine rd_t rfl rfl (t_loadC (R := vecv v_a_x1 (a_x.l.length)) ty24 rfl .here isvV1 ?_)
      refine rd_t rfl rfl (t_vappF (m := ([q7] : (List GTyp))) ap24_24 rfl rfl appv_isv (.there .here) (by first | rfl | simp) q17 fun v19 => ?_)
      refine rd_v rfl (v_nilCheck rfl) ?_
      refine rd_v rfl (v_fa rfl pt113_0_1 fd113_1) ?_
      refine rd_t rfl rfl (t_storeC (y' := ((a_x.m, (Vh.mk v19 (a_x.l ++ ([q7] : (List GTyp))).length), a_x.e) : (GMod × Vh × Int))) ty24 rfl rfl isvV2 (.there .here) rfl ?_)
      refine rd_nil ?_
      refine fin_unpinN 8 hn14 rfl ?_
      exact hJ12 _ (v19) h _ (join_imp 12 rfl rfl (mod_cons (j := 8) rfl (fun _ _ _ => trivial) mod_nil) (.cons (.there .here) (.cons (.there .here) (.cons .here .nil))))
   ·
    refine w_condM h rfl (fun _ h => ?_) (fun _ h => ?_)
    ·
     refine w_region ?_
     refine oV (v_fi rfl GNode.f0 fd133_0 rfl (z := a_n_.kind)) ?_
     refine oV (v_loadI ty3 rfl) ?_
     refine cal_inv h fun y9 hy9 h => ?_
     refine oT (t_call (r09_Universal_w hy9) hT (.same rfl .nil) .nil (fun R H' hR => ?_))
     obtain ⟨rfl, rfl⟩ := hR
     refine oT (t_buildSlice (l := ([y9] : (List Tag))) el52 (.cons rfl (fun _ _ h => h) .nil) rfl rfl ?_)
     refine oV (v_fa rfl GTyp.f1 fd58_1) ?_
     refine oT (t_storeC (y' := ((GTyp.mk a_n_.kind ([y9] : (List Tag)) a_n_.con ([] : (List GItem)) ([] : (List GFld)) a_n_.root a_n_.more (0 : Int)) : GTyp)) ty52 rfl rfl appv_isv .here rfl ?_)
     refine rl_nil ?_
     exact hJ8 _ () h _ (join_imp 5 rfl rfl mod_nil (.cons .here (.cons .here (.cons .here .nil))))
    ·
     refine w_skip ?_
     exact hJ8 _ () h _ (join_imp 0 rfl rfl mod_nil (.cons .here (.cons .here (.cons .here .nil))))
 ·
  refine rl_condM (j := 13) h rfl (fun g4 h => ?_) (fun g4 h => ?_)
  ·
   refine op_pass rfl (dj := 13) rfl g4 ?_
   refine op_pass rfl (dj := 13) rfl g4 ?_
   refine op_pass rfl (dj := 13) rfl g4 ?_
   refine op_pass rfl (dj := 13) rfl g4 ?_
   refine op_pass rfl (dj := 13) rfl g4 ?_
   refine op_pass rfl (dj := 13) rfl g4 ?_
   refine oV (v_pick_t rfl g4 rfl) ?_
   exact hJ3 _ () h _ (join_imp 7 rfl rfl (mod_cons (j := 20) rfl (fun _ _ h => h) mod_nil) (.cons .here (.cons .here .nil)))
  ·
   refine op_take rfl rfl (dj := 13) rfl g4 (OpV.t (v_move rfl) ?_)
   refine op_take rfl rfl (dj := 13) rfl g4 (OpV.t (v_nilCheck rfl) ?_)
   refine op_take rfl rfl (dj := 13) rfl g4 (OpV.t (v_fa rfl pt113_0_1 fd113_1) ?_)
   refine op_take rfl rfl (dj := 13) rfl g4 (t_loadC (R := vecv v_a_x1 (a_x.l.length)) ty24 rfl .here isvV1 ?_)
   refine op_take rfl rfl (dj := 13) rfl g4 (OpV.t (v_vlen sl24 rfl) ?_)
   refine op_take rfl rfl (dj := 13) rfl g4 (OpV.t (v_geq rfl rfl) ?_)
   refine oV (v_pick_f rfl g4 rfl) ?_
   exact hJ3 _ () h _ (join_imp 7 rfl rfl (mod_cons (j := 20) rfl (fun _ _ h => h) mod_nil) (.cons .here (.cons .here .nil)))

theorem r10_maker_fields_grp_w : ∀ n, r10_maker_fields_C (r10_maker_fields n) ∧ r10_maker_node_C (r10_maker_node n) ∧ r10_maker_made_C (r10_maker_made n)
 | 0 => ⟨fun h => (by cases h), fun h => (by cases h), fun h => (by cases h)⟩
 | n + 1 => by
  obtain ⟨h0, h1, h2⟩ := r10_maker_fields_grp_w n
  exact ⟨r10_maker_fields_w0 h0 h1 h2, r10_maker_node_w0 h0 h1 h2, r10_maker_made_w0 h0 h1 h2⟩
theorem r10_maker_fields_w (n : Nat) : r10_maker_fields_C (r10_maker_fields n) := (r10_maker_fields_grp_w n).1
theorem r10_maker_node_w (n : Nat) : r10_maker_node_C (r10_maker_node n) := (r10_maker_fields_grp_w n).2.1
theorem r10_maker_made_w (n : Nat) : r10_maker_made_C (r10_maker_made n) := (r10_maker_fields_grp_w n).2.2

theorem r10_Make_w : ∀ {a_m : GMod} {r : GTab × Int × Int}, r10_Make a_m = some r → Ctr Tryd.prog 33 [isv (a_m)] [] (fun R H => R = oneOf [isv (r.1), isv (r.2.1), isv (r.2.2)] ∧ H = []) := by
 intro a_m r h
 unfold r10_Make at h
 refine spec_intro Tryd.func33 rfl (by decide +kernel) (by rfl) fun w0 S0 hT => ?_
 refine wsr ?_
 refine oT (t_boxIC (y := a_m) rfl (fun _ _ h => h) ?_)
 refine oT (t_alloc _ ze26 fun b1 => ?_)
 refine oV (v_assign rfl) ?_
 refine oV (v_assign rfl) ?_
 refine rnf ?_
 refine wsr ?_
 refine oV (v_loadI ty75 rfl) ?_
 refine cal_inv h fun y2 hy2 h => ?_
 refine oT (t_call (r07_Order_w hy2) hT (.same rfl .nil) .nil (fun R H' hR => ?_))
 obtain ⟨rfl, rfl⟩ := hR
 refine oV (v_move rfl) ?_
 refine oV (v_extract rfl rfl) ?_
 refine oV (v_extract rfl rfl) ?_
 refine oV (v_extract rfl rfl) ?_
 refine oV (v_assign rfl) ?_
 refine oV (v_assign rfl) ?_
 refine oV (v_assign rfl) ?_
 refine rnf ?_
 refine w_seq ?_
 refine wsr ?_
 refine oV (v_move rfl) ?_
 refine oV (v_neq rfl rfl) ?_
 refine rnf ?_
 refine w_condM h rfl (fun _ h => ?_) (fun _ h => ?_)
 ·
  refine wsr ?_
  refine oV (v_build (z := (GTab.mk (Str.mk []) ([] : (List Str)) ([] : (List Int)) ([] : (List GTyp)))) rfl bu26 ze26 .nil) ?_
  refine oV (v_move rfl) ?_
  refine oV (v_move rfl) ?_
  refine oT (t_storeC (y' := ((GTab.mk (Str.mk []) ([] : (List Str)) ([] : (List Int)) ([] : (List GTyp))) : GTab)) ty26 rfl rfl (fun _ _ h => h) .here rfl ?_)
  refine oV (v_assign rfl) ?_
  refine oV (v_assign rfl) ?_
  refine rnf ?_
  refine w_ret ?_
  refine ret_nxt ?_
  refine ret_post (.cell rfl .here ty26 (.tmp rfl (.tmp rfl .nil))) .nil ?_
  obtain rfl := Option.some.inj h
  exact ⟨rfl, rfl⟩
 ·
  refine wkf ?_
  refine wsr ?_
  refine oV (v_loadI ty75 rfl) ?_
  refine oV (v_build (z := ((a_m, (Vh.mk none 0), (0 : Int)) : (GMod × Vh × Int))) rfl bu113 zt113_2 (.cons pt113_0_0 fd113_0 rfl (fun _ _ h => h) .nil)) ?_
  refine oT (t_boxC (y := ((a_m, (Vh.mk none 0), (0 : Int)) : (GMod × Vh × Int))) rfl (fun _ _ h => h) fun b3 => ?_)
  refine rl_upd (upd_vec (α := GTyp)) ?_
  refine oV (v_assign rfl) ?_
  refine rnf ?_
  refine w_seq ?_
  refine w_J (ι := GTab) (γ := Nat × Tok) (fun q5 g5 => [(9, ptrv g5.1 (Fld.id (Str × (List Str) × (TList Int) × (List GTyp))))]) (fun q5 g5 => [boxE g5.1 ((q5.name, q5.names, (TList.mk g5.2 q5.roots), q5.types) : (Str × (List Str) × (TList Int) × (List GTyp))), tokE g5.2]) .nil h (fun q5 g5 h => ?_) (fun J6 h hJ6 => ?_)
  ·
   refine w_seq ?_
   refine wsr ?_
   refine oV (v_assign rfl) ?_
   refine rnf ?_
   refine w_block ?_
   refine w_lp (ι := Int × GTab × GMk) (γ := Tok × Vt) (fun q16 g16 => [(10, isv (q16.1))]) (fun q16 g16 => [boxE g5.1 ((q16.2.1.name, q16.2.1.names, (TList.mk g16.1 q16.2.1.roots), q16.2.1.types) : (Str × (List Str) × (TList Int) × (List GTyp))), tokE g16.1, boxE b3 ((q16.2.2.m, (Vh.mk g16.2 q16.2.2.l.length), q16.2.2.e) : (GMod × Vh × Int)), vecE g16.2 (q16.2.2.l : List GTyp)]) h (g5.2, none) (mod_cons (j := 10) rfl (fun _ _ h => h) mod_nil) (.cons .here (.cons .here (.cons (.there .here) (.cons .here .nil)))) (fun L17 q16 g16 Q50 h hL17 eL17 rL17 => ?_)
   refine w_seq ?_
   refine wsr ?_
   refine oV (v_move rfl) ?_
   refine oV (v_fi rfl GMod.f2 fd75_2 rfl (z := a_m.names)) ?_
   refine oV (v_loadI ty22 rfl) ?_
   refine oV (v_ln (l := a_m.names) rfl (fun _ _ h => h) sl22) ?_
   refine oV (v_lss rfl rfl) ?_
   refine rnf ?_
   refine w_condM h rfl (fun _ h => ?_) (fun _ h => ?_)
   ·
    refine wkf ?_
    refine w_seq ?_
    refine w_block ?_
    refine w_seq ?_
    refine w_J (ι := GTab × GMk) (γ := Tok × Vt) (fun q34 g34 => []) (fun q34 g34 => [boxE g5.1 ((q34.1.name, q34.1.names, (TList.mk g34.1 q34.1.roots), q34.1.types) : (Str × (List Str) × (TList Int) × (List GTyp))), tokE g34.1, boxE b3 ((q34.2.m, (Vh.mk g34.2 q34.2.l.length), q34.2.e) : (GMod × Vh × Int)), vecE g34.2 (q34.2.l : List GTyp)]) (.cons .here (.cons (.there .here) (.cons .here (.cons .here .nil)))) h (fun q34 g34 h => ?_) (fun J35 h hJ35 => ?_)
    ·
     refine wsr ?_
     refine oV (v_move rfl) ?_
     refine oV (v_nilCheck rfl) ?_
     refine oV (v_fa rfl pt113_0_2 fd113_2) ?_
     refine oT (t_loadC (R := isv (q34.2.e)) ty30 rfl (.there (.there .here)) (fun _ _ h => h) ?_)
     refine oV (v_neq rfl rfl) ?_
     refine rnf ?_
     refine w_condM h rfl (fun _ h => ?_) (fun _ h => ?_)
     ·
      refine w_seq ?_
      refine w_pinN 8 (.there (.there .here)) rfl (fun o47 hn48 => ?_)
      refine w_regionD (.v 0 (.v 1 (.v 2 (.v 3 (.v 4 (.v 5 (.t 6 (.v 7 (.v 8 .nil))))))))) moOrd (by kernel_rfl) ?_
      refine rd_v rfl (v_build (z := (GTab.mk (Str.mk []) ([] : (List Str)) ([] : (List Int)) ([] : (List GTyp)))) rfl bu26 ze26 .nil) ?_
      refine rd_v rfl (v_move rfl) ?_
      refine rd_v rfl (v_move rfl) ?_
      refine rd_v rfl (v_nilCheckP rfl) ?_
      refine rd_v rfl (v_fp rfl pt113_0_2 fd113_2) ?_
      refine rd_v rfl (v_lpC (R := isv (q34.2.e)) ty30 rfl (List.Mem.head _) (fun _ _ h => h)) ?_
      refine rd_t rfl rfl (t_storeC (y' := ((GTab.mk (Str.mk []) ([] : (List Str)) ([] : (List Int)) ([] : (List GTyp))) : GTab)) ty26 rfl rfl (fun _ _ h => h) (.there (.there (.there .here))) rfl ?_)
      refine rd_v rfl (v_assign rfl) ?_
      refine rd_v rfl (v_assign rfl) ?_
      refine rd_nil ?_
      refine fin_unpinN 8 hn48 rfl ?_
      refine fin_nxt ?_
      refine w_ret ?_
      refine ret_block ?_
      refine ret_nxt ?_
      refine rL17 _ ?_
      refine ret_block ?_
      refine ret_nxt ?_
      refine ret_post (.cell rfl (.there .here) ty26 (.tmp rfl (.tmp rfl .nil))) .nil ?_
      obtain rfl := Option.some.inj h
      exact ⟨rfl, rfl⟩
     ·
      refine w_skip ?_
      refine fin_block ?_
      refine fin_nxt ?_
      refine w_region ?_
      refine oV (v_move rfl) ?_
      refine ck_inv h fun q49 h => ?_
      refine oV (v_add rfl rfl q49) ?_
      refine oV (v_assign rfl) ?_
      refine rl_nil ?_
      exact hL17 _ (g34.1, g34.2) h _ (join_imp 14 rfl rfl (mod_cons (j := 10) rfl (fun _ _ h => h) mod_nil) (.cons .here (.cons .here (.cons .here (.cons .here (.cons .here .nil))))))
    ·
     refine w_regionD (.v 0 (.v 2 (.v 3 (.v 4 (.v 5 (.v 6 (.v 7 (.alt 1 (.t 8 (.t 9 (.t 10 (.v 11 (.t 12 .nil))))) (.t 8 (.alt 1 (.t 9 (.t 10 (.v 11 (.t 12 .nil)))) (.t 9 (.t 1 (.t 10 (.v 11 (.t 12 .nil))))))))))))))) moOrd (by kernel_rfl) ?_
     refine rd_v rfl (v_fa rfl pt26_0_2 fd26_2) ?_
     refine rd_v rfl (v_move rfl) ?_
     refine rd_v rfl (v_fi rfl GMod.f3 fd75_3 rfl (z := a_m.types)) ?_
     refine rd_v rfl (v_loadI ty23 rfl) ?_
     refine rd_v rfl (v_move rfl) ?_
     refine cal_inv h fun y36 hy36 h => ?_
     refine rd_v rfl (v_ix (l := a_m.types) rfl (fun _ _ h => h) rfl sl23 hy36) ?_
     refine rd_v rfl (v_loadI ty3 rfl) ?_
     refine cal_inv h fun y37 hy37 h => ?_
     refine asr_inv h fun q41 h => ?_
     refine rd_two ?_ ?_
     ·
      refine rd_t rfl rfl (t_loadC (R := appv g16.1 (q16.2.1.roots)) ty23 rfl .here isvT1 ?_)
      refine rd_t rfl rfl (t_call (r10_maker_node_w fuel hy37) hT (.same rfl (.same rfl (.same rfl .nil))) (.cons (.there (.there .here)) (.cons (.there (.there .here)) .nil)) (fun R H' hR => ?_))
      obtain ⟨v38, rfl, rfl⟩ := hR
      refine rd_t rfl rfl (t_buildSlice (l := ([y37.1] : (List Int))) el23 (.cons rfl (fun _ _ h => h) .nil) rfl rfl ?_)
      refine rd_t rfl rfl (t_appC (l := q16.2.1.roots) (m := ([y37.1] : (List Int))) ap23_23 rfl (fun _ _ h => h) rfl appv_isv (.there (.there (.there .here))) q41 fun t40 => ?_)
      refine rd_v rfl (v_fa rfl pt26_0_2 fd26_2) ?_
      refine rd_t rfl rfl (t_storeC (y' := ((q16.2.1.name, q16.2.1.names, (TList.mk t40 (q16.2.1.roots ++ ([y37.1] : (List Int)))), q16.2.1.types) : (Str × (List Str) × (TList Int) × (List GTyp)))) ty23 rfl rfl isvT2 (.there (.there (.there .here))) rfl ?_)
      refine rd_nil ?_
      exact hJ35 _ (t40, v38) h _ (join_imp 12 rfl rfl mod_nil (.cons .here (.cons .here (.cons .here (.cons .here (.cons .here .nil))))))
     ·
      refine rd_t rfl rfl (t_call (r10_maker_node_w fuel hy37) hT (.same rfl (.same rfl (.same rfl .nil))) (.cons (.there (.there .here)) (.cons (.there (.there .here)) .nil)) (fun R H' hR => ?_))
      obtain ⟨v42, rfl, rfl⟩ := hR
      refine rd_two ?_ ?_
      ·
       refine rd_t rfl rfl (t_loadC (R := appv g16.1 (q16.2.1.roots)) ty23 rfl (.there (.there .here)) isvT1 ?_)
       refine rd_t rfl rfl (t_buildSlice (l := ([y37.1] : (List Int))) el23 (.cons rfl (fun _ _ h => h) .nil) rfl rfl ?_)
       refine rd_t rfl rfl (t_appC (l := q16.2.1.roots) (m := ([y37.1] : (List Int))) ap23_23 rfl (fun _ _ h => h) rfl appv_isv (.there (.there (.there .here))) q41 fun t44 => ?_)
       refine rd_v rfl (v_fa rfl pt26_0_2 fd26_2) ?_
       refine rd_t rfl rfl (t_storeC (y' := ((q16.2.1.name, q16.2.1.names, (TList.mk t44 (q16.2.1.roots ++ ([y37.1] : (List Int)))), q16.2.1.types) : (Str × (List Str) × (TList Int) × (List GTyp)))) ty23 rfl rfl isvT2 (.there (.there (.there .here))) rfl ?_)
       refine rd_nil ?_
       exact hJ35 _ (t44, v42) h _ (join_imp 12 rfl rfl mod_nil (.cons .here (.cons .here (.cons .here (.cons .here (.cons .here .nil))))))
      ·
       refine rd_t rfl rfl (t_buildSlice (l := ([y37.1] : (List Int))) el23 (.cons rfl (fun _ _ h => h) .nil) rfl rfl ?_)
       refine rd_t rfl rfl (t_loadC (R := appv g16.1 (q16.2.1.roots)) ty23 rfl (.there (.there .here)) isvT1 ?_)
       refine rd_t rfl rfl (t_appC (l := q16.2.1.roots) (m := ([y37.1] : (List Int))) ap23_23 rfl (fun _ _ h => h) rfl appv_isv (.there (.there (.there .here))) q41 fun t46 => ?_)
       refine rd_v rfl (v_fa rfl pt26_0_2 fd26_2) ?_
       refine rd_t rfl rfl (t_storeC (y' := ((q16.2.1.name, q16.2.1.names, (TList.mk t46 (q16.2.1.roots ++ ([y37.1] : (List Int)))), q16.2.1.types) : (Str × (List Str) × (TList Int) × (List GTyp)))) ty23 rfl rfl isvT2 (.there (.there (.there .here))) rfl ?_)
       refine rd_nil ?_
       exact hJ35 _ (t46, v42) h _ (join_imp 12 rfl rfl mod_nil (.cons .here (.cons .here (.cons .here (.cons .here (.cons .here .nil))))))
   ·
    refine w_exit ?_
    refine exi_nxt ?_
    refine eL17 _ _ ?_
    refine exi_block ?_
    refine fin_nxt ?_
    refine wsr ?_
    refine oV (v_move rfl) ?_
    refine oV (v_nilCheck rfl) ?_
    refine oV (v_fa rfl pt113_0_1 fd113_1) ?_
    refine oT (t_loadC (R := vecv g16.2 (q16.2.2.l.length)) ty24 rfl (.there (.there .here)) isvV1 ?_)
    refine oV (v_fa rfl pt26_0_3 fd26_3) ?_
    refine rl_upd (upd_frzF 64 (.there (.there (.there .here))) rfl (by first | rfl | simp)) ?_
    refine oT (t_storeC (y' := ((q16.2.1.name, q16.2.1.names, (TList.mk g16.1 q16.2.1.roots), q16.2.2.l) : (Str × (List Str) × (TList Int) × (List GTyp)))) ty24 rfl rfl (fun _ _ h => h) .here rfl ?_)
    refine rnf ?_
    refine wsr ?_
    refine oT (t_loadC (y := ((q16.2.1.name, q16.2.1.names, (TList.mk g16.1 q16.2.1.roots), q16.2.2.l) : (Str × (List Str) × (TList Int) × (List GTyp)))) (R := isv (((q16.2.1.name, q16.2.1.names, (TList.mk g16.1 q16.2.1.roots), q16.2.2.l)) : ((Str × (List Str) × (TList Int) × (List GTyp))))) ty26 rfl .here (by exact (fun _ _ h => h)) ?_)
    refine rl_upd (upd_slot (R' := isv ((GTab.mk q16.2.1.name q16.2.1.names q16.2.1.roots q16.2.2.l))) 66 rfl (Cv.isv rfl fun S => (fun cs h => GTab.cv (x := (GTab.mk q16.2.1.name q16.2.1.names q16.2.1.roots q16.2.2.l)) cs (((Cv.pair Cv.id (Cv.pair Cv.id (Cv.pair Cv.tl Cv.id))) : Cv S ((q16.2.1.name, q16.2.1.names, (TList.mk g16.1 q16.2.1.roots), q16.2.2.l) : (Str × (List Str) × (TList Int) × (List GTyp))) (GTab.to (GTab.mk q16.2.1.name q16.2.1.names q16.2.1.roots q16.2.2.l))) cs h)))) ?_
    refine oT (t_storeC (y' := ((GTab.mk q16.2.1.name q16.2.1.names q16.2.1.roots q16.2.2.l) : GTab)) ty26 rfl rfl (fun _ _ h => h) (.there (.there (.there .here))) rfl ?_)
    refine oV (v_assign rfl) ?_
    refine oV (v_assign rfl) ?_
    refine rnf ?_
    refine w_ret ?_
    refine ret_post (.cell rfl .here ty26 (.tmp rfl (.tmp rfl .nil))) .nil ?_
    obtain rfl := Option.some.inj h
    exact ⟨rfl, rfl⟩
  ·
   refine w_regionD (.v 0 (.v 1 (.v 2 (.v 3 (.alt 4 (.v 5 (.t 6 (.t 7 .nil))) (.t 6 (.t 4 (.v 5 (.t 7 .nil))))))))) moOrd (by kernel_rfl) ?_
   refine rd_v rfl (v_fi rfl GMod.f0 fd75_0 rfl (z := a_m.name)) ?_
   refine rd_v rfl (v_loadI ty9 rfl) ?_
   refine rd_v rfl (v_fi rfl GMod.f2 fd75_2 rfl (z := a_m.names)) ?_
   refine rd_v rfl (v_loadI ty22 rfl) ?_
   refine asr_inv h fun q8 h => ?_
   refine rd_two ?_ ?_
   ·
    refine rd_t rfl rfl (t_appN (m := a_m.names) ap22_22 rfl rfl (fun _ _ h => h) q8 fun t7 => ?_)
    refine rd_v rfl (v_build (z := ((a_m.name, (([] : (List Str)) ++ a_m.names), (TList.mk none ([] : (List Int))), ([] : (List GTyp))) : (Str × (List Str) × (TList Int) × (List GTyp)))) rfl bu26 zt26_3 (.cons pt26_0_0 fd26_0 rfl (fun _ _ h => h) (.cons pt26_0_1 fd26_1 rfl appv_isv .nil))) ?_
    refine rd_t rfl rfl (t_alloc _ zt26_3 fun b9 => ?_)
    refine rd_upd (upd_tok) ?_
    refine rd_upd (upd_tok) ?_
    refine rd_t rfl rfl (t_storeC (y' := ((a_m.name, (([] : (List Str)) ++ a_m.names), (TList.mk none ([] : (List Int))), ([] : (List GTyp))) : (Str × (List Str) × (TList Int) × (List GTyp)))) ty26 rfl rfl (fun _ _ h => h) (.there (.there .here)) rfl ?_)
    refine rd_nil ?_
    exact hJ6 _ (b9, none) h _ (join_imp 7 rfl rfl (mod_cons (j := 9) rfl (fun _ _ h => h) mod_nil) (.cons .here (.cons .here (.cons (.there (.there .here)) (.cons (.there (.there .here)) (.cons (.there (.there .here)) .nil))))))
   ·
    refine rd_t rfl rfl (t_alloc _ zt26_3 fun b12 => ?_)
    refine rd_upd (upd_tok) ?_
    refine rd_t rfl rfl (t_appN (m := a_m.names) ap22_22 rfl rfl (fun _ _ h => h) q8 fun t14 => ?_)
    refine rd_v rfl (v_build (z := ((a_m.name, (([] : (List Str)) ++ a_m.names), (TList.mk none ([] : (List Int))), ([] : (List GTyp))) : (Str × (List Str) × (TList Int) × (List GTyp)))) rfl bu26 zt26_3 (.cons pt26_0_0 fd26_0 rfl (fun _ _ h => h) (.cons pt26_0_1 fd26_1 rfl appv_isv .nil))) ?_
    refine rd_upd (upd_tok) ?_
    refine rd_t rfl rfl (t_storeC (y' := ((a_m.name, (([] : (List Str)) ++ a_m.names), (TList.mk none ([] : (List Int))), ([] : (List GTyp))) : (Str × (List Str) × (TList Int) × (List GTyp)))) ty26 rfl rfl (fun _ _ h => h) (.there (.there (.there .here))) rfl ?_)
    refine rd_nil ?_
    exact hJ6 _ (b12, none) h _ (join_imp 7 rfl rfl (mod_cons (j := 9) rfl (fun _ _ h => h) mod_nil) (.cons .here (.cons .here (.cons (.there (.there .here)) (.cons (.there (.there .here)) (.cons (.there (.there .here)) .nil))))))


theorem oghamplay_Table_w : ∀ {a_text : Str} {r : GTab × Bool}, oghamplay_Table a_text = some r → Ctr Tryd.prog 12 [isv (a_text)] [] (fun R H => R = oneOf [isv (r.1), isv (r.2)] ∧ H = []) := by
 intro a_text r h
 unfold oghamplay_Table at h
 refine spec_intro Tryd.func12 rfl (by decide +kernel) (by rfl) fun w0 S0 hT => ?_
 refine wsr ?_
 refine oT (t_alloc _ ze26 fun b1 => ?_)
 refine oV (v_assign rfl) ?_
 refine rnf ?_
 refine w_seq ?_
 refine wsr ?_
 refine oV (v_move rfl) ?_
 refine oV (v_lenS st9 rfl) ?_
 refine oV (v_gtr rfl rfl) ?_
 refine rnf ?_
 refine w_condM h rfl (fun _ h => ?_) (fun _ h => ?_)
 ·
  refine wsr ?_
  refine oV (v_build (z := (GTab.mk (Str.mk []) ([] : (List Str)) ([] : (List Int)) ([] : (List GTyp)))) rfl bu26 ze26 .nil) ?_
  refine oT (t_storeC (y' := ((GTab.mk (Str.mk []) ([] : (List Str)) ([] : (List Int)) ([] : (List GTyp))) : GTab)) ty26 rfl rfl (fun _ _ h => h) .here rfl ?_)
  refine oV (v_assign rfl) ?_
  refine rnf ?_
  refine w_ret ?_
  refine ret_nxt ?_
  refine ret_post (.cell rfl .here ty26 (.tmp rfl .nil)) .nil ?_
  obtain rfl := Option.some.inj h
  exact ⟨rfl, rfl⟩
 ·
  refine wkf ?_
  refine wsr ?_
  refine oV (v_move rfl) ?_
  refine cal_inv h fun y2 hy2 h => ?_
  refine oT (t_call (r05_Parse_w hy2) hT (.same rfl .nil) .nil (fun R H' hR => ?_))
  obtain ⟨rfl, rfl⟩ := hR
  refine oV (v_move rfl) ?_
  refine oV (v_extract rfl rfl) ?_
  refine oV (v_extract rfl rfl) ?_
  refine oV (v_extract rfl rfl) ?_
  refine oT (t_alloc _ ze75 fun b3 => ?_)
  refine oT (t_storeC (y' := (y2.1 : GMod)) ty75 rfl rfl (fun _ _ h => h) .here rfl ?_)
  refine rl_upd (upd_imm 4 .here rfl) ?_
  refine oV (v_assign rfl) ?_
  refine oV (v_assign rfl) ?_
  refine rnf ?_
  refine w_seq ?_
  refine wsr ?_
  refine oV (v_move rfl) ?_
  refine oV (v_neq rfl rfl) ?_
  refine rnf ?_
  refine w_condM h rfl (fun _ h => ?_) (fun _ h => ?_)
  ·
   refine wsr ?_
   refine oV (v_build (z := (GTab.mk (Str.mk []) ([] : (List Str)) ([] : (List Int)) ([] : (List GTyp)))) rfl bu26 ze26 .nil) ?_
   refine oT (t_storeC (y' := ((GTab.mk (Str.mk []) ([] : (List Str)) ([] : (List Int)) ([] : (List GTyp))) : GTab)) ty26 rfl rfl (fun _ _ h => h) .here rfl ?_)
   refine oV (v_assign rfl) ?_
   refine rnf ?_
   refine w_ret ?_
   refine ret_nxt ?_
   refine ret_post (.cell rfl .here ty26 (.tmp rfl .nil)) .nil ?_
   obtain rfl := Option.some.inj h
   exact ⟨rfl, rfl⟩
  ·
   refine wkf ?_
   refine wsr ?_
   refine oV (v_loadI ty75 rfl) ?_
   refine cal_inv h fun y4 hy4 h => ?_
   refine oT (t_call (r10_Make_w hy4) hT (.same rfl .nil) .nil (fun R H' hR => ?_))
   obtain ⟨rfl, rfl⟩ := hR
   refine oV (v_move rfl) ?_
   refine oV (v_extract rfl rfl) ?_
   refine oV (v_extract rfl rfl) ?_
   refine oV (v_extract rfl rfl) ?_
   refine oT (t_alloc _ ze26 fun b5 => ?_)
   refine oT (t_storeC (y' := (y4.1 : GTab)) ty26 rfl rfl (fun _ _ h => h) .here rfl ?_)
   refine rl_upd (upd_imm 7 .here rfl) ?_
   refine oV (v_assign rfl) ?_
   refine oV (v_assign rfl) ?_
   refine rnf ?_
   refine w_seq ?_
   refine w_regionD (.v 0 (.v 1 (.v 2 (.v 3 (.v 4 (.v 5 (.v 6 (.v 7 (.v 8 (.t 9 (.v 10 .nil))))))))))) moOrd (by kernel_rfl) ?_
   refine rd_v rfl (v_loadI ty26 rfl) ?_
   refine rd_v rfl (v_move rfl) ?_
   refine rd_v rfl (v_eql rfl rfl) ?_
   refine rd_v rfl (v_move rfl) ?_
   refine rd_j (ι := Bool) (γ := Unit) (fun q6 g6 => [(37, isv (q6))]) (fun q6 g6 => []) .nil h 5 rfl (fun q6 g6 h => ?_) (fun J7 h hJ7 => ?_)
   ·
    refine rd_t rfl rfl (t_storeC (y' := (y4.1 : GTab)) ty26 rfl rfl (fun _ _ h => h) .here rfl ?_)
    refine rd_v rfl (v_assign rfl) ?_
    refine rd_nil ?_
    refine fin_nxt ?_
    refine w_ret ?_
    refine ret_post (.cell rfl .here ty26 (.tmp rfl .nil)) .nil ?_
    obtain rfl := Option.some.inj h
    exact ⟨rfl, rfl⟩
   ·
    refine rd_condM (j := 32) h rfl (fun g8 h => ?_) (fun g8 h => ?_)
    ·
     refine rd_vt rfl rfl (dj := 32) rfl g8 (v_fi rfl GTab.f3 fd26_3 rfl (z := y4.1.types)) ?_
     refine rd_vt rfl rfl (dj := 32) rfl g8 (v_loadI ty24 rfl) ?_
     refine rd_vt rfl rfl (dj := 32) rfl g8 (v_ln (l := y4.1.types) rfl (fun _ _ h => h) sl24) ?_
     refine rd_vt rfl rfl (dj := 32) rfl g8 (v_leq rfl rfl) ?_
     refine rd_v rfl (v_pick_t rfl g8 rfl) ?_
     exact hJ7 _ () h _ (join_imp 5 rfl rfl (mod_cons (j := 37) rfl (fun _ _ h => h) mod_nil) (.cons .here .nil))
    ·
     refine rd_passV rfl rfl (dj := 32) rfl g8 ?_
     refine rd_passV rfl rfl (dj := 32) rfl g8 ?_
     refine rd_passV rfl rfl (dj := 32) rfl g8 ?_
     refine rd_passV rfl rfl (dj := 32) rfl g8 ?_
     refine rd_v rfl (v_pick_f rfl g8 rfl) ?_
     exact hJ7 _ () h _ (join_imp 5 rfl rfl (mod_cons (j := 37) rfl (fun _ _ h => h) mod_nil) (.cons .here .nil))

end Go.Proofs.YtajbipkppngccaaDoor


namespace Go.Proofs.YtajbipkppngccaaDoor
open Go.Sy
set_option maxRecDepth 4000
theorem slices_Index_Lstring_string_w : ∀ {a_s : (List Str)} {a_v : Str} {r : Int}, slices_Index_Lstring_string a_s a_v = some r → Ctr Tryd.prog 59 [isv (a_s), isv (a_v)] [] (fun R H => R = oneOf [isv (r)] ∧ H = []) := by
 intro a_s a_v r h
 unfold slices_Index_Lstring_string at h
 refine spec_intro Tryd.func59 rfl (by decide +kernel) (by rfl) fun w0 S0 hT => ?_
 refine wsr ?_
 refine oV (v_assign rfl) ?_
 refine rnf ?_
 refine w_seq ?_
 refine wsr ?_
 refine oV (v_move rfl) ?_
 refine oV (v_ln (l := a_s) rfl (fun _ _ h => h) sl22) ?_
 refine oV (v_move rfl) ?_
 refine rnf ?_
 refine w_block ?_
 refine w_lp (ι := Int) (γ := Unit) (fun q1 g1 => [(8, isv (q1))]) (fun q1 g1 => []) h () (mod_cons (j := 8) rfl (fun _ _ h => h) mod_nil) .nil (fun L2 q1 g1 Q7 h hL2 eL2 rL2 => ?_)
 refine wsr ?_
 refine oV (v_lss rfl rfl) ?_
 refine rnf ?_
 refine w_seq ?_
 refine w_condM h rfl (fun _ h => ?_) (fun _ h => ?_)
 ·
  refine wkf ?_
  refine w_seq ?_
  refine w_block ?_
  refine wsr ?_
  refine oV (v_move rfl) ?_
  refine oV (v_assign rfl) ?_
  refine rnf ?_
  refine wsr ?_
  refine oV (v_move rfl) ?_
  refine oV (v_move rfl) ?_
  refine oV (v_move rfl) ?_
  refine cal_inv h fun y5 hy5 h => ?_
  refine oV (v_ix (l := a_s) rfl (fun _ _ h => h) rfl sl22 hy5) ?_
  refine oV (v_loadI ty9 rfl) ?_
  refine oV (v_eqA eq9 rfl rfl) ?_
  refine rnf ?_
  refine w_condM h rfl (fun _ h => ?_) (fun _ h => ?_)
  ·
   refine wsr ?_
   refine oV (v_move rfl) ?_
   refine oV (v_assign rfl) ?_
   refine rnf ?_
   refine w_ret ?_
   refine ret_block ?_
   refine ret_nxt ?_
   refine rL2 _ ?_
   refine ret_block ?_
   refine ret_nxt ?_
   refine ret_post (.tmp rfl .nil) .nil ?_
   obtain rfl := Option.some.inj h
   exact ⟨rfl, rfl⟩
  ·
   refine w_skip ?_
   refine fin_block ?_
   refine fin_nxt ?_
   refine w_region ?_
   refine ck_inv h fun q6 h => ?_
   refine oV (v_add rfl rfl q6) ?_
   refine oV (v_move rfl) ?_
   refine rl_nil ?_
   exact hL2 _ () h _ (join_imp 12 rfl rfl (mod_cons (j := 8) rfl (fun _ _ h => h) mod_nil) .nil)
 ·
  refine w_exit ?_
  refine exi_nxt ?_
  refine eL2 _ _ ?_
  refine exi_block ?_
  refine fin_nxt ?_
  refine wsr ?_
  refine oV (v_assign rfl) ?_
  refine rnf ?_
  refine w_ret ?_
  refine ret_post (.tmp rfl .nil) .nil ?_
  obtain rfl := Option.some.inj h
  exact ⟨rfl, rfl⟩


theorem table_Find_w : ∀ {a_t : GTab} {a_name : Str} {r : Int}, table_Find a_t a_name = some r → Ctr Tryd.prog 34 [isv (a_t), isv (a_name)] [] (fun R H => R = oneOf [isv (r)] ∧ H = []) := by
 intro a_t a_name r h
 unfold table_Find at h
 refine spec_intro Tryd.func34 rfl (by decide +kernel) (by rfl) fun w0 S0 hT => ?_
 refine wsr ?_
 refine oT (t_boxIC (y := a_t) rfl (fun _ _ h => h) ?_)
 refine oV (v_assign rfl) ?_
 refine rnf ?_
 refine wsr ?_
 refine oV (v_fi rfl GTab.f1 fd26_1 rfl (z := a_t.names)) ?_
 refine oV (v_loadI ty22 rfl) ?_
 refine oV (v_move rfl) ?_
 refine cal_inv h fun y1 hy1 h => ?_
 refine oT (t_call (slices_Index_Lstring_string_w hy1) hT (.same rfl (.same rfl .nil)) .nil (fun R H' hR => ?_))
 obtain ⟨rfl, rfl⟩ := hR
 refine oV (v_assign rfl) ?_
 refine rnf ?_
 refine w_seq ?_
 refine wsr ?_
 refine oV (v_move rfl) ?_
 refine oV (v_lss rfl rfl) ?_
 refine oV (v_move rfl) ?_
 refine rl_j (ι := Bool) (γ := Unit) (fun q2 g2 => [(18, isv (q2))]) (fun q2 g2 => []) .nil h 6 rfl (fun q2 g2 h => ?_) (fun J3 h hJ3 => ?_)
 ·
  refine rnf ?_
  refine w_condM h rfl (fun _ h => ?_) (fun _ h => ?_)
  ·
   refine wsr ?_
   refine oV (v_assign rfl) ?_
   refine rnf ?_
   refine w_ret ?_
   refine ret_nxt ?_
   refine ret_post (.tmp rfl .nil) .nil ?_
   obtain rfl := Option.some.inj h
   exact ⟨rfl, rfl⟩
  ·
   refine wkf ?_
   refine wsr ?_
   refine oV (v_fi rfl GTab.f2 fd26_2 rfl (z := a_t.roots)) ?_
   refine oV (v_loadI ty23 rfl) ?_
   refine oV (v_move rfl) ?_
   refine cal_inv h fun y5 hy5 h => ?_
   refine oV (v_ix (l := a_t.roots) rfl (fun _ _ h => h) rfl sl23 hy5) ?_
   refine oV (v_loadI ty3 rfl) ?_
   refine oV (v_assign rfl) ?_
   refine rnf ?_
   refine w_ret ?_
   refine ret_post (.tmp rfl .nil) .nil ?_
   obtain rfl := Option.some.inj h
   exact ⟨rfl, rfl⟩
 ·
  refine rl_condM (j := 12) h rfl (fun g4 h => ?_) (fun g4 h => ?_)
  ·
   refine op_pass rfl (dj := 12) rfl g4 ?_
   refine op_pass rfl (dj := 12) rfl g4 ?_
   refine op_pass rfl (dj := 12) rfl g4 ?_
   refine op_pass rfl (dj := 12) rfl g4 ?_
   refine op_pass rfl (dj := 12) rfl g4 ?_
   refine oV (v_pick_t rfl g4 rfl) ?_
   exact hJ3 _ () h _ (join_imp 6 rfl rfl (mod_cons (j := 18) rfl (fun _ _ h => h) mod_nil) .nil)
  ·
   refine op_take rfl rfl (dj := 12) rfl g4 (OpV.t (v_move rfl) ?_)
   refine op_take rfl rfl (dj := 12) rfl g4 (OpV.t (v_fi rfl GTab.f2 fd26_2 rfl (z := a_t.roots)) ?_)
   refine op_take rfl rfl (dj := 12) rfl g4 (OpV.t (v_loadI ty23 rfl) ?_)
   refine op_take rfl rfl (dj := 12) rfl g4 (OpV.t (v_ln (l := a_t.roots) rfl (fun _ _ h => h) sl23) ?_)
   refine op_take rfl rfl (dj := 12) rfl g4 (OpV.t (v_geq rfl rfl) ?_)
   refine oV (v_pick_f rfl g4 rfl) ?_
   exact hJ3 _ () h _ (join_imp 6 rfl rfl (mod_cons (j := 18) rfl (fun _ _ h => h) mod_nil) .nil)


theorem extend_sides_types_w : ∀ {a_s : GXsd} {a_i : Int} {a_k : Int} {r : GTyp × GTyp × Bool}, extend_sides_types a_s a_i a_k = some r → Ctr Tryd.prog 60 [isv (a_s), isv (a_i), isv (a_k)] [] (fun R H => R = oneOf [isv (r.1), isv (r.2.1), isv (r.2.2)] ∧ H = []) := by
 intro a_s a_i a_k r h
 unfold extend_sides_types at h
 refine spec_intro Tryd.func60 rfl (by decide +kernel) (by rfl) fun w0 S0 hT => ?_
 refine wsr ?_
 refine oT (t_boxIC (y := a_s) rfl (fun _ _ h => h) ?_)
 refine oT (t_alloc _ ze58 fun b1 => ?_)
 refine oT (t_alloc _ ze58 fun b2 => ?_)
 refine oV (v_assign rfl) ?_
 refine rnf ?_
 refine w_seq ?_
 refine wsr ?_
 refine oV (v_move rfl) ?_
 refine oV (v_lss rfl rfl) ?_
 refine oV (v_move rfl) ?_
 refine rl_j (ι := Bool) (γ := Unit) (fun q3 g3 => [(18, isv (q3))]) (fun q3 g3 => []) .nil h 7 rfl (fun q3 g3 h => ?_) (fun J4 h hJ4 => ?_)
 ·
  refine oV (v_move rfl) ?_
  refine rl_j (ι := Bool) (γ := Unit) (fun q6 g6 => [(22, isv (q6))]) (fun q6 g6 => []) .nil h 3 rfl (fun q6 g6 h => ?_) (fun J7 h hJ7 => ?_)
  ·
   refine oV (v_move rfl) ?_
   refine rl_j (ι := Bool) (γ := Unit) (fun q9 g9 => [(30, isv (q9))]) (fun q9 g9 => []) .nil h 7 rfl (fun q9 g9 h => ?_) (fun J10 h hJ10 => ?_)
   ·
    refine rnf ?_
    refine w_condM h rfl (fun _ h => ?_) (fun _ h => ?_)
    ·
     refine wsr ?_
     refine oV (v_build (z := (GTyp.mk (0 : Int) ([] : (List Tag)) (GCon.mk false false false false (0 : Int) (0 : Int)) ([] : (List GItem)) ([] : (List GFld)) (0 : Int) false (0 : Int))) rfl bu58 ze58 .nil) ?_
     refine oV (v_build (z := (GTyp.mk (0 : Int) ([] : (List Tag)) (GCon.mk false false false false (0 : Int) (0 : Int)) ([] : (List GItem)) ([] : (List GFld)) (0 : Int) false (0 : Int))) rfl bu58 ze58 .nil) ?_
     refine oT (t_storeC (y' := ((GTyp.mk (0 : Int) ([] : (List Tag)) (GCon.mk false false false false (0 : Int) (0 : Int)) ([] : (List GItem)) ([] : (List GFld)) (0 : Int) false (0 : Int)) : GTyp)) ty58 rfl rfl (fun _ _ h => h) (.there .here) rfl ?_)
     refine oT (t_storeC (y' := ((GTyp.mk (0 : Int) ([] : (List Tag)) (GCon.mk false false false false (0 : Int) (0 : Int)) ([] : (List GItem)) ([] : (List GFld)) (0 : Int) false (0 : Int)) : GTyp)) ty58 rfl rfl (fun _ _ h => h) (.there .here) rfl ?_)
     refine oV (v_assign rfl) ?_
     refine rnf ?_
     refine w_ret ?_
     refine ret_nxt ?_
     refine ret_post (.cell rfl (.there .here) ty58 (.cell rfl .here ty58 (.tmp rfl .nil))) .nil ?_
     obtain rfl := Option.some.inj h
     exact ⟨rfl, rfl⟩
    ·
     refine wkf ?_
     refine w_seq ?_
     refine w_regionD (.v 0 (.v 1 (.v 2 (.v 3 (.v 4 (.v 5 (.v 6 (.v 7 (.v 8 (.v 9 (.v 10 (.v 11 (.t 12 (.t 13 (.v 14 .nil))))))))))))))) moOrd (by kernel_rfl) ?_
     refine rd_v rfl (v_fi rfl GXsd.f0 fd82_0 rfl (z := a_s.a)) ?_
     refine rd_v rfl (v_fi rfl GTab.f3 fd26_3 rfl (z := a_s.a.types)) ?_
     refine rd_v rfl (v_loadI ty24 rfl) ?_
     refine rd_v rfl (v_move rfl) ?_
     refine cal_inv h fun y12 hy12 h => ?_
     refine rd_v rfl (v_ix (l := a_s.a.types) rfl (fun _ _ h => h) rfl sl24 hy12) ?_
     refine rd_v rfl (v_loadI ty58 rfl) ?_
     refine rd_v rfl (v_fi rfl GXsd.f1 fd82_1 rfl (z := a_s.b)) ?_
     refine rd_v rfl (v_fi rfl GTab.f3 fd26_3 rfl (z := a_s.b.types)) ?_
     refine rd_v rfl (v_loadI ty24 rfl) ?_
     refine rd_v rfl (v_move rfl) ?_
     refine cal_inv h fun y13 hy13 h => ?_
     refine rd_v rfl (v_ix (l := a_s.b.types) rfl (fun _ _ h => h) rfl sl24 hy13) ?_
     refine rd_v rfl (v_loadI ty58 rfl) ?_
     refine rd_t rfl rfl (t_storeC (y' := (y12 : GTyp)) ty58 rfl rfl (fun _ _ h => h) (.there .here) rfl ?_)
     refine rd_t rfl rfl (t_storeC (y' := (y13 : GTyp)) ty58 rfl rfl (fun _ _ h => h) (.there .here) rfl ?_)
     refine rd_v rfl (v_assign rfl) ?_
     refine rd_nil ?_
     refine fin_nxt ?_
     refine w_ret ?_
     refine ret_post (.cell rfl (.there .here) ty58 (.cell rfl .here ty58 (.tmp rfl .nil))) .nil ?_
     obtain rfl := Option.some.inj h
     exact ⟨rfl, rfl⟩
   ·
    refine rl_condM (j := 23) h rfl (fun g11 h => ?_) (fun g11 h => ?_)
    ·
     refine op_pass rfl (dj := 23) rfl g11 ?_
     refine op_pass rfl (dj := 23) rfl g11 ?_
     refine op_pass rfl (dj := 23) rfl g11 ?_
     refine op_pass rfl (dj := 23) rfl g11 ?_
     refine op_pass rfl (dj := 23) rfl g11 ?_
     refine op_pass rfl (dj := 23) rfl g11 ?_
     refine oV (v_pick_t rfl g11 rfl) ?_
     exact hJ10 _ () h _ (join_imp 7 rfl rfl (mod_cons (j := 30) rfl (fun _ _ h => h) mod_nil) (.cons .here (.cons .here .nil)))
    ·
     refine op_take rfl rfl (dj := 23) rfl g11 (OpV.t (v_move rfl) ?_)
     refine op_take rfl rfl (dj := 23) rfl g11 (OpV.t (v_fi rfl GXsd.f1 fd82_1 rfl (z := a_s.b)) ?_)
     refine op_take rfl rfl (dj := 23) rfl g11 (OpV.t (v_fi rfl GTab.f3 fd26_3 rfl (z := a_s.b.types)) ?_)
     refine op_take rfl rfl (dj := 23) rfl g11 (OpV.t (v_loadI ty24 rfl) ?_)
     refine op_take rfl rfl (dj := 23) rfl g11 (OpV.t (v_ln (l := a_s.b.types) rfl (fun _ _ h => h) sl24) ?_)
     refine op_take rfl rfl (dj := 23) rfl g11 (OpV.t (v_geq rfl rfl) ?_)
     refine oV (v_pick_f rfl g11 rfl) ?_
     exact hJ10 _ () h _ (join_imp 7 rfl rfl (mod_cons (j := 30) rfl (fun _ _ h => h) mod_nil) (.cons .here (.cons .here .nil)))
  ·
   refine rl_condM (j := 19) h rfl (fun g8 h => ?_) (fun g8 h => ?_)
   ·
    refine op_pass rfl (dj := 19) rfl g8 ?_
    refine op_pass rfl (dj := 19) rfl g8 ?_
    refine oV (v_pick_t rfl g8 rfl) ?_
    exact hJ7 _ () h _ (join_imp 3 rfl rfl (mod_cons (j := 22) rfl (fun _ _ h => h) mod_nil) (.cons .here (.cons .here .nil)))
   ·
    refine op_take rfl rfl (dj := 19) rfl g8 (OpV.t (v_move rfl) ?_)
    refine op_take rfl rfl (dj := 19) rfl g8 (OpV.t (v_lss rfl rfl) ?_)
    refine oV (v_pick_f rfl g8 rfl) ?_
    exact hJ7 _ () h _ (join_imp 3 rfl rfl (mod_cons (j := 22) rfl (fun _ _ h => h) mod_nil) (.cons .here (.cons .here .nil)))
 ·
  refine rl_condM (j := 11) h rfl (fun g5 h => ?_) (fun g5 h => ?_)
  ·
   refine op_pass rfl (dj := 11) rfl g5 ?_
   refine op_pass rfl (dj := 11) rfl g5 ?_
   refine op_pass rfl (dj := 11) rfl g5 ?_
   refine op_pass rfl (dj := 11) rfl g5 ?_
   refine op_pass rfl (dj := 11) rfl g5 ?_
   refine op_pass rfl (dj := 11) rfl g5 ?_
   refine oV (v_pick_t rfl g5 rfl) ?_
   exact hJ4 _ () h _ (join_imp 7 rfl rfl (mod_cons (j := 18) rfl (fun _ _ h => h) mod_nil) (.cons .here (.cons .here .nil)))
  ·
   refine op_take rfl rfl (dj := 11) rfl g5 (OpV.t (v_move rfl) ?_)
   refine op_take rfl rfl (dj := 11) rfl g5 (OpV.t (v_fi rfl GXsd.f0 fd82_0 rfl (z := a_s.a)) ?_)
   refine op_take rfl rfl (dj := 11) rfl g5 (OpV.t (v_fi rfl GTab.f3 fd26_3 rfl (z := a_s.a.types)) ?_)
   refine op_take rfl rfl (dj := 11) rfl g5 (OpV.t (v_loadI ty24 rfl) ?_)
   refine op_take rfl rfl (dj := 11) rfl g5 (OpV.t (v_ln (l := a_s.a.types) rfl (fun _ _ h => h) sl24) ?_)
   refine op_take rfl rfl (dj := 11) rfl g5 (OpV.t (v_geq rfl rfl) ?_)
   refine oV (v_pick_f rfl g5 rfl) ?_
   exact hJ4 _ () h _ (join_imp 7 rfl rfl (mod_cons (j := 18) rfl (fun _ _ h => h) mod_nil) (.cons .here (.cons .here .nil)))


theorem slices_Equal_Lapi_Tag_api_Tag_w : ∀ {a_s1 : (List Tag)} {a_s2 : (List Tag)} {r : Bool}, slices_Equal_Lapi_Tag_api_Tag a_s1 a_s2 = some r → Ctr Tryd.prog 61 [isv (a_s1), isv (a_s2)] [] (fun R H => R = oneOf [isv (r)] ∧ H = []) := by
 intro a_s1 a_s2 r h
 unfold slices_Equal_Lapi_Tag_api_Tag at h
 refine spec_intro Tryd.func61 rfl (by decide +kernel) (by rfl) fun w0 S0 hT => ?_
 refine wsr ?_
 refine oV (v_assign rfl) ?_
 refine rnf ?_
 refine w_seq ?_
 refine wsr ?_
 refine oV (v_move rfl) ?_
 refine oV (v_ln (l := a_s1) rfl (fun _ _ h => h) sl52) ?_
 refine oV (v_move rfl) ?_
 refine oV (v_ln (l := a_s2) rfl (fun _ _ h => h) sl52) ?_
 refine oV (v_neq rfl rfl) ?_
 refine rnf ?_
 refine w_condM h rfl (fun _ h => ?_) (fun _ h => ?_)
 ·
  refine wsr ?_
  refine oV (v_assign rfl) ?_
  refine rnf ?_
  refine w_ret ?_
  refine ret_nxt ?_
  refine ret_post (.tmp rfl .nil) .nil ?_
  obtain rfl := Option.some.inj h
  exact ⟨rfl, rfl⟩
 ·
  refine wkf ?_
  refine w_seq ?_
  refine wsr ?_
  refine oV (v_move rfl) ?_
  refine oV (v_ln (l := a_s1) rfl (fun _ _ h => h) sl52) ?_
  refine oV (v_move rfl) ?_
  refine rnf ?_
  refine w_block ?_
  refine w_lp (ι := Int) (γ := Unit) (fun q1 g1 => [(13, isv (q1))]) (fun q1 g1 => []) h () (mod_cons (j := 13) rfl (fun _ _ h => h) mod_nil) .nil (fun L2 q1 g1 Q9 h hL2 eL2 rL2 => ?_)
  refine wsr ?_
  refine oV (v_lss rfl rfl) ?_
  refine rnf ?_
  refine w_seq ?_
  refine w_condM h rfl (fun _ h => ?_) (fun _ h => ?_)
  ·
   refine wkf ?_
   refine w_seq ?_
   refine w_block ?_
   refine wsr ?_
   refine oV (v_move rfl) ?_
   refine oV (v_assign rfl) ?_
   refine rnf ?_
   refine w_seq ?_
   refine w_regionD (.v 0 (.v 1 (.v 2 (.v 3 (.v 4 (.v 5 (.v 6 (.v 7 (.v 8 .nil))))))))) moOrd (by kernel_rfl) ?_
   refine rd_v rfl (v_move rfl) ?_
   refine rd_v rfl (v_move rfl) ?_
   refine cal_inv h fun y6 hy6 h => ?_
   refine rd_v rfl (v_ix (l := a_s1) rfl (fun _ _ h => h) rfl sl52 hy6) ?_
   refine rd_v rfl (v_loadI ty61 rfl) ?_
   refine rd_v rfl (v_move rfl) ?_
   refine rd_v rfl (v_move rfl) ?_
   refine cal_inv h fun y7 hy7 h => ?_
   refine rd_v rfl (v_ix (l := a_s2) rfl (fun _ _ h => h) rfl sl52 hy7) ?_
   refine rd_v rfl (v_loadI ty61 rfl) ?_
   refine rd_v rfl (v_neA eq61 rfl rfl) ?_
   refine rd_nil ?_
   refine fin_nxt ?_
   refine w_condM h rfl (fun _ h => ?_) (fun _ h => ?_)
   ·
    refine wsr ?_
    refine oV (v_assign rfl) ?_
    refine rnf ?_
    refine w_ret ?_
    refine ret_block ?_
    refine ret_nxt ?_
    refine rL2 _ ?_
    refine ret_block ?_
    refine ret_nxt ?_
    refine ret_post (.tmp rfl .nil) .nil ?_
    obtain rfl := Option.some.inj h
    exact ⟨rfl, rfl⟩
   ·
    refine w_skip ?_
    refine fin_block ?_
    refine fin_nxt ?_
    refine w_region ?_
    refine ck_inv h fun q8 h => ?_
    refine oV (v_add rfl rfl q8) ?_
    refine oV (v_move rfl) ?_
    refine rl_nil ?_
    exact hL2 _ () h _ (join_imp 15 rfl rfl (mod_cons (j := 13) rfl (fun _ _ h => h) mod_nil) .nil)
  ·
   refine w_exit ?_
   refine exi_nxt ?_
   refine eL2 _ _ ?_
   refine exi_block ?_
   refine fin_nxt ?_
   refine wsr ?_
   refine oV (v_assign rfl) ?_
   refine rnf ?_
   refine w_ret ?_
   refine ret_post (.tmp rfl .nil) .nil ?_
   obtain rfl := Option.some.inj h
   exact ⟨rfl, rfl⟩


theorem slices_Equal_Lapi_Item_api_Item_w : ∀ {a_s1 : (List GItem)} {a_s2 : (List GItem)} {r : Bool}, slices_Equal_Lapi_Item_api_Item a_s1 a_s2 = some r → Ctr Tryd.prog 88 [isv (a_s1), isv (a_s2)] [] (fun R H => R = oneOf [isv (r)] ∧ H = []) := by
 intro a_s1 a_s2 r h
 unfold slices_Equal_Lapi_Item_api_Item at h
 refine spec_intro Tryd.func88 rfl (by decide +kernel) (by rfl) fun w0 S0 hT => ?_
 refine wsr ?_
 refine oV (v_assign rfl) ?_
 refine rnf ?_
 refine w_seq ?_
 refine wsr ?_
 refine oV (v_move rfl) ?_
 refine oV (v_ln (l := a_s1) rfl (fun _ _ h => h) sl55) ?_
 refine oV (v_move rfl) ?_
 refine oV (v_ln (l := a_s2) rfl (fun _ _ h => h) sl55) ?_
 refine oV (v_neq rfl rfl) ?_
 refine rnf ?_
 refine w_condM h rfl (fun _ h => ?_) (fun _ h => ?_)
 ·
  refine wsr ?_
  refine oV (v_assign rfl) ?_
  refine rnf ?_
  refine w_ret ?_
  refine ret_nxt ?_
  refine ret_post (.tmp rfl .nil) .nil ?_
  obtain rfl := Option.some.inj h
  exact ⟨rfl, rfl⟩
 ·
  refine wkf ?_
  refine w_seq ?_
  refine wsr ?_
  refine oV (v_move rfl) ?_
  refine oV (v_ln (l := a_s1) rfl (fun _ _ h => h) sl55) ?_
  refine oV (v_move rfl) ?_
  refine rnf ?_
  refine w_block ?_
  refine w_lp (ι := Int) (γ := Unit) (fun q1 g1 => [(13, isv (q1))]) (fun q1 g1 => []) h () (mod_cons (j := 13) rfl (fun _ _ h => h) mod_nil) .nil (fun L2 q1 g1 Q9 h hL2 eL2 rL2 => ?_)
  refine wsr ?_
  refine oV (v_lss rfl rfl) ?_
  refine rnf ?_
  refine w_seq ?_
  refine w_condM h rfl (fun _ h => ?_) (fun _ h => ?_)
  ·
   refine wkf ?_
   refine w_seq ?_
   refine w_block ?_
   refine wsr ?_
   refine oV (v_move rfl) ?_
   refine oV (v_assign rfl) ?_
   refine rnf ?_
   refine w_seq ?_
   refine w_regionD (.v 0 (.v 1 (.v 2 (.v 3 (.v 4 (.v 5 (.v 6 (.v 7 (.v 8 .nil))))))))) moOrd (by kernel_rfl) ?_
   refine rd_v rfl (v_move rfl) ?_
   refine rd_v rfl (v_move rfl) ?_
   refine cal_inv h fun y6 hy6 h => ?_
   refine rd_v rfl (v_ix (l := a_s1) rfl (fun _ _ h => h) rfl sl55 hy6) ?_
   refine rd_v rfl (v_loadI ty71 rfl) ?_
   refine rd_v rfl (v_move rfl) ?_
   refine rd_v rfl (v_move rfl) ?_
   refine cal_inv h fun y7 hy7 h => ?_
   refine rd_v rfl (v_ix (l := a_s2) rfl (fun _ _ h => h) rfl sl55 hy7) ?_
   refine rd_v rfl (v_loadI ty71 rfl) ?_
   refine rd_v rfl (v_neA eq71 rfl rfl) ?_
   refine rd_nil ?_
   refine fin_nxt ?_
   refine w_condM h rfl (fun _ h => ?_) (fun _ h => ?_)
   ·
    refine wsr ?_
    refine oV (v_assign rfl) ?_
    refine rnf ?_
    refine w_ret ?_
    refine ret_block ?_
    refine ret_nxt ?_
    refine rL2 _ ?_
    refine ret_block ?_
    refine ret_nxt ?_
    refine ret_post (.tmp rfl .nil) .nil ?_
    obtain rfl := Option.some.inj h
    exact ⟨rfl, rfl⟩
   ·
    refine w_skip ?_
    refine fin_block ?_
    refine fin_nxt ?_
    refine w_region ?_
    refine ck_inv h fun q8 h => ?_
    refine oV (v_add rfl rfl q8) ?_
    refine oV (v_move rfl) ?_
    refine rl_nil ?_
    exact hL2 _ () h _ (join_imp 15 rfl rfl (mod_cons (j := 13) rfl (fun _ _ h => h) mod_nil) .nil)
  ·
   refine w_exit ?_
   refine exi_nxt ?_
   refine eL2 _ _ ?_
   refine exi_block ?_
   refine fin_nxt ?_
   refine wsr ?_
   refine oV (v_assign rfl) ?_
   refine rnf ?_
   refine w_ret ?_
   refine ret_post (.tmp rfl .nil) .nil ?_
   obtain rfl := Option.some.inj h
   exact ⟨rfl, rfl⟩


theorem extend_items_w : ∀ {a_x : GTyp} {a_y : GTyp} {r : Bool}, extend_items a_x a_y = some r → Ctr Tryd.prog 62 [isv (a_x), isv (a_y)] [] (fun R H => R = oneOf [isv (r)] ∧ H = []) := by
 intro a_x a_y r h
 unfold extend_items at h
 refine spec_intro Tryd.func62 rfl (by decide +kernel) (by rfl) fun w0 S0 hT => ?_
 refine wsr ?_
 refine oT (t_boxIC (y := a_x) rfl (fun _ _ h => h) ?_)
 refine oT (t_boxIC (y := a_y) rfl (fun _ _ h => h) ?_)
 refine oV (v_assign rfl) ?_
 refine rnf ?_
 refine wsr ?_
 refine oV (v_fi rfl GTyp.f3 fd58_3 rfl (z := a_x.items)) ?_
 refine oV (v_loadI ty55 rfl) ?_
 refine oV (v_ln (l := a_x.items) rfl (fun _ _ h => h) sl55) ?_
 refine oV (v_assign rfl) ?_
 refine rnf ?_
 refine w_seq ?_
 refine w_regionD (.v 0 (.v 1 (.v 2 (.v 3 (.v 4 (.v 5 (.v 6 (.v 7 (.v 8 (.v 9 (.v 10 (.v 11 (.v 12 (.v 13 (.v 14 (.v 15 (.v 16 (.v 17 (.v 18 (.t 19 (.v 20 (.v 21 (.v 22 (.v 23 (.v 24 (.v 25 (.v 26 (.v 27 (.v 28 (.v 29 (.v 30 (.v 31 (.v 32 .nil))))))))))))))))))))))))))))))))) moOrd (by kernel_rfl) ?_
 refine rd_v rfl (v_fi rfl GTyp.f5 fd58_5 rfl (z := a_x.root)) ?_
 refine rd_v rfl (v_loadI ty3 rfl) ?_
 refine rd_v rfl (v_fi rfl GTyp.f5 fd58_5 rfl (z := a_y.root)) ?_
 refine rd_v rfl (v_loadI ty3 rfl) ?_
 refine rd_v rfl (v_eql rfl rfl) ?_
 refine rd_v rfl (v_move rfl) ?_
 refine rd_j (ι := Bool) (γ := Unit) (fun q1 g1 => [(20, isv (q1))]) (fun q1 g1 => []) .nil h 6 rfl (fun q1 g1 h => ?_) (fun J2 h hJ2 => ?_)
 ·
  refine rd_v rfl (v_move rfl) ?_
  refine rd_j (ι := Bool) (γ := Unit) (fun q4 g4 => [(29, isv (q4))]) (fun q4 g4 => []) .nil h 8 rfl (fun q4 g4 h => ?_) (fun J5 h hJ5 => ?_)
  ·
   refine rd_v rfl (v_move rfl) ?_
   refine rd_j (ι := Bool) (γ := Unit) (fun q9 g9 => [(40, isv (q9))]) (fun q9 g9 => []) .nil h 10 rfl (fun q9 g9 h => ?_) (fun J10 h hJ10 => ?_)
   ·
    refine rd_v rfl (v_assign rfl) ?_
    refine rd_nil ?_
    refine fin_nxt ?_
    refine w_ret ?_
    refine ret_post (.tmp rfl .nil) .nil ?_
    obtain rfl := Option.some.inj h
    exact ⟨rfl, rfl⟩
   ·
    refine rd_condM (j := 30) h rfl (fun g11 h => ?_) (fun g11 h => ?_)
    ·
     refine rd_vt rfl rfl (dj := 30) rfl g11 (v_fi rfl GTyp.f6 fd58_6 rfl (z := a_x.more)) ?_
     refine rd_vt rfl rfl (dj := 30) rfl g11 (v_loadI ty4 rfl) ?_
     refine rd_vt rfl rfl (dj := 30) rfl g11 (v_move rfl) ?_
     refine rd_j (ι := Bool) (γ := Unit) (fun q12 g12 => [(39, isv (q12))]) (fun q12 g12 => []) .nil h 6 rfl (fun q12 g12 h => ?_) (fun J13 h hJ13 => ?_)
     ·
      refine rd_v rfl (v_pick_t rfl g11 rfl) ?_
      exact hJ10 _ () h _ (join_imp 5 rfl rfl (mod_cons (j := 40) rfl (fun _ _ h => h) mod_nil) .nil)
     ·
      refine rd_condM (j := 33) h rfl (fun g14 h => ?_) (fun g14 h => ?_)
      ·
       refine rd_passV rfl rfl (dj := 33) rfl g14 ?_
       refine rd_passV rfl rfl (dj := 33) rfl g14 ?_
       refine rd_passV rfl rfl (dj := 33) rfl g14 ?_
       refine rd_passV rfl rfl (dj := 33) rfl g14 ?_
       refine rd_passV rfl rfl (dj := 33) rfl g14 ?_
       refine rd_vt rfl rfl (dj := 30) rfl g11 (v_pick_t rfl g14 rfl) ?_
       exact hJ13 _ () h _ (join_imp 6 rfl rfl (mod_cons (j := 39) rfl (fun _ _ h => h) mod_nil) .nil)
      ·
       refine rd_vt rfl rfl (dj := 33) rfl g14 (v_fi rfl GTyp.f3 fd58_3 rfl (z := a_y.items)) ?_
       refine rd_vt rfl rfl (dj := 33) rfl g14 (v_loadI ty55 rfl) ?_
       refine rd_vt rfl rfl (dj := 33) rfl g14 (v_ln (l := a_y.items) rfl (fun _ _ h => h) sl55) ?_
       refine rd_vt rfl rfl (dj := 33) rfl g14 (v_move rfl) ?_
       refine rd_vt rfl rfl (dj := 33) rfl g14 (v_eql rfl rfl) ?_
       refine rd_vt rfl rfl (dj := 30) rfl g11 (v_pick_f rfl g14 rfl) ?_
       exact hJ13 _ () h _ (join_imp 6 rfl rfl (mod_cons (j := 39) rfl (fun _ _ h => h) mod_nil) .nil)
    ·
     refine rd_passV rfl rfl (dj := 30) rfl g11 ?_
     refine rd_passV rfl rfl (dj := 30) rfl g11 ?_
     refine rd_passV rfl rfl (dj := 30) rfl g11 ?_
     refine rd_passUV rfl rfl (dj := 33) rfl ?_
     refine rd_passUV rfl rfl (dj := 33) rfl ?_
     refine rd_passUV rfl rfl (dj := 33) rfl ?_
     refine rd_passUV rfl rfl (dj := 33) rfl ?_
     refine rd_passUV rfl rfl (dj := 33) rfl ?_
     refine rd_passV rfl rfl (dj := 30) rfl g11 ?_
     refine rd_v rfl (v_pick_f rfl g11 rfl) ?_
     exact hJ10 _ () h _ (join_imp 10 rfl rfl (mod_cons (j := 40) rfl (fun _ _ h => h) mod_nil) .nil)
  ·
   refine rd_condM (j := 21) h rfl (fun g6 h => ?_) (fun g6 h => ?_)
   ·
    refine rd_vt rfl rfl (dj := 21) rfl g6 (v_fi rfl GTyp.f3 fd58_3 rfl (z := a_y.items)) ?_
    refine rd_vt rfl rfl (dj := 21) rfl g6 (v_loadI ty55 rfl) ?_
    refine rd_vt rfl rfl (dj := 21) rfl g6 (v_move rfl) ?_
    refine asd_inv h fun q7 h => ?_
    refine rd_vt rfl rfl (dj := 21) rfl g6 (v_sl (l := a_y.items) rfl (fun _ _ h => h) sl55 (.inl ⟨rfl, rfl⟩) (.inr ⟨_, rfl, rfl⟩) q7.1 q7.2.1 q7.2.2) ?_
    refine rd_vt rfl rfl (dj := 21) rfl g6 (v_fi rfl GTyp.f3 fd58_3 rfl (z := a_x.items)) ?_
    refine rd_vt rfl rfl (dj := 21) rfl g6 (v_loadI ty55 rfl) ?_
    refine cal_inv h fun y8 hy8 h => ?_
    refine rd_tt rfl rfl rfl (dj := 21) rfl g6 (t_call (slices_Equal_Lapi_Item_api_Item_w hy8) hT (.same rfl (.same rfl .nil)) .nil (fun R H' hR => ?_))
    obtain ⟨rfl, rfl⟩ := hR
    refine rd_v rfl (v_pick_t rfl g6 rfl) ?_
    exact hJ5 _ () h _ (join_imp 8 rfl rfl (mod_cons (j := 29) rfl (fun _ _ h => h) mod_nil) .nil)
   ·
    refine rd_passV rfl rfl (dj := 21) rfl g6 ?_
    refine rd_passV rfl rfl (dj := 21) rfl g6 ?_
    refine rd_passV rfl rfl (dj := 21) rfl g6 ?_
    refine rd_passV rfl rfl (dj := 21) rfl g6 ?_
    refine rd_passV rfl rfl (dj := 21) rfl g6 ?_
    refine rd_passV rfl rfl (dj := 21) rfl g6 ?_
    refine rd_passT rfl rfl (dj := 21) rfl g6 ?_
    refine rd_v rfl (v_pick_f rfl g6 rfl) ?_
    exact hJ5 _ () h _ (join_imp 8 rfl rfl (mod_cons (j := 29) rfl (fun _ _ h => h) mod_nil) .nil)
 ·
  refine rd_condM (j := 14) h rfl (fun g3 h => ?_) (fun g3 h => ?_)
  ·
   refine rd_vt rfl rfl (dj := 14) rfl g3 (v_fi rfl GTyp.f3 fd58_3 rfl (z := a_y.items)) ?_
   refine rd_vt rfl rfl (dj := 14) rfl g3 (v_loadI ty55 rfl) ?_
   refine rd_vt rfl rfl (dj := 14) rfl g3 (v_ln (l := a_y.items) rfl (fun _ _ h => h) sl55) ?_
   refine rd_vt rfl rfl (dj := 14) rfl g3 (v_move rfl) ?_
   refine rd_vt rfl rfl (dj := 14) rfl g3 (v_geq rfl rfl) ?_
   refine rd_v rfl (v_pick_t rfl g3 rfl) ?_
   exact hJ2 _ () h _ (join_imp 6 rfl rfl (mod_cons (j := 20) rfl (fun _ _ h => h) mod_nil) .nil)
  ·
   refine rd_passV rfl rfl (dj := 14) rfl g3 ?_
   refine rd_passV rfl rfl (dj := 14) rfl g3 ?_
   refine rd_passV rfl rfl (dj := 14) rfl g3 ?_
   refine rd_passV rfl rfl (dj := 14) rfl g3 ?_
   refine rd_passV rfl rfl (dj := 14) rfl g3 ?_
   refine rd_v rfl (v_pick_f rfl g3 rfl) ?_
   exact hJ2 _ () h _ (join_imp 6 rfl rfl (mod_cons (j := 20) rfl (fun _ _ h => h) mod_nil) .nil)


theorem bytes_Equal_w : ∀ {a_a : (List UInt8)} {a_b : (List UInt8)} {r : Bool}, bytes_Equal a_a a_b = some r → Ctr Tryd.prog 127 [isv (a_a), isv (a_b)] [] (fun R H => R = oneOf [isv (r)] ∧ H = []) := by
 intro a_a a_b r h
 unfold bytes_Equal at h
 refine spec_intro Tryd.func127 rfl (by decide +kernel) (by rfl) fun w0 S0 hT => ?_
 refine wsr ?_
 refine oV (v_assign rfl) ?_
 refine rnf ?_
 refine wsr ?_
 refine oV (v_move rfl) ?_
 refine oV (v_bs (l := a_a) Tryd.underlying63 Tryd.underlying5 Tryd.underlying9 rfl (fun _ _ h => h)) ?_
 refine oV (v_move rfl) ?_
 refine oV (v_bs (l := a_b) Tryd.underlying63 Tryd.underlying5 Tryd.underlying9 rfl (fun _ _ h => h)) ?_
 refine oV (v_eqA eq9 rfl rfl) ?_
 refine oV (v_assign rfl) ?_
 refine rnf ?_
 refine w_ret ?_
 refine ret_post (.tmp rfl .nil) .nil ?_
 obtain rfl := Option.some.inj h
 exact ⟨rfl, rfl⟩


theorem value_sameRaw_w : ∀ {a_a : Raw} {a_b : Raw} {r : Bool}, value_sameRaw a_a a_b = some r → Ctr Tryd.prog 130 [isv (a_a), isv (a_b)] [] (fun R H => R = oneOf [isv (r)] ∧ H = []) := by
 intro a_a a_b r h
 unfold value_sameRaw at h
 refine spec_intro Tryd.func130 rfl (by decide +kernel) (by rfl) fun w0 S0 hT => ?_
 refine wsr ?_
 refine oT (t_boxIC (y := a_a) rfl (fun _ _ h => h) ?_)
 refine oT (t_boxIC (y := a_b) rfl (fun _ _ h => h) ?_)
 refine oV (v_assign rfl) ?_
 refine rnf ?_
 refine wsr ?_
 refine oV (v_fi rfl Raw.f0 fd149_0 rfl (z := a_a.n)) ?_
 refine oV (v_loadI ty3 rfl) ?_
 refine oV (v_fi rfl Raw.f0 fd149_0 rfl (z := a_b.n)) ?_
 refine oV (v_loadI ty3 rfl) ?_
 refine oV (v_eql rfl rfl) ?_
 refine oV (v_move rfl) ?_
 refine rl_j (ι := Bool) (γ := Unit) (fun q1 g1 => [(16, isv (q1))]) (fun q1 g1 => []) .nil h 6 rfl (fun q1 g1 h => ?_) (fun J2 h hJ2 => ?_)
 ·
  refine oV (v_assign rfl) ?_
  refine rnf ?_
  refine w_ret ?_
  refine ret_post (.tmp rfl .nil) .nil ?_
  obtain rfl := Option.some.inj h
  exact ⟨rfl, rfl⟩
 ·
  refine rl_condM (j := 10) h rfl (fun g3 h => ?_) (fun g3 h => ?_)
  ·
   refine op_take rfl rfl (dj := 10) rfl g3 (OpV.t (v_fi rfl Raw.f1 fd149_1 rfl (z := a_a.b)) ?_)
   refine op_take rfl rfl (dj := 10) rfl g3 (OpV.t (v_loadI ty63 rfl) ?_)
   refine op_take rfl rfl (dj := 10) rfl g3 (OpV.t (v_fi rfl Raw.f1 fd149_1 rfl (z := a_b.b)) ?_)
   refine op_take rfl rfl (dj := 10) rfl g3 (OpV.t (v_loadI ty63 rfl) ?_)
   refine cal_inv h fun y4 hy4 h => ?_
   refine op_take rfl rfl (dj := 10) rfl g3 (t_call (bytes_Equal_w hy4) hT (.same rfl (.same rfl .nil)) .nil (fun R H' hR => ?_))
   obtain ⟨rfl, rfl⟩ := hR
   refine oV (v_pick_t rfl g3 rfl) ?_
   exact hJ2 _ () h _ (join_imp 6 rfl rfl (mod_cons (j := 16) rfl (fun _ _ h => h) mod_nil) .nil)
  ·
   refine op_pass rfl (dj := 10) rfl g3 ?_
   refine op_pass rfl (dj := 10) rfl g3 ?_
   refine op_pass rfl (dj := 10) rfl g3 ?_
   refine op_pass rfl (dj := 10) rfl g3 ?_
   refine op_pass rfl (dj := 10) rfl g3 ?_
   refine oV (v_pick_f rfl g3 rfl) ?_
   exact hJ2 _ () h _ (join_imp 6 rfl rfl (mod_cons (j := 16) rfl (fun _ _ h => h) mod_nil) .nil)


theorem slices_EqualFunc_Lapi_Raw_Lapi_Raw_api_Raw_api_Raw_w : ∀ {a_s1 : (List Raw)} {a_s2 : (List Raw)} {r : Bool}, slices_EqualFunc_Lapi_Raw_Lapi_Raw_api_Raw_api_Raw a_s1 a_s2 = some r → Ctr Tryd.prog 129 [isv (a_s1), isv (a_s2), clov 130 []] [] (fun R H => R = oneOf [isv (r)] ∧ H = []) := by
 intro a_s1 a_s2 r h
 unfold slices_EqualFunc_Lapi_Raw_Lapi_Raw_api_Raw_api_Raw at h
 refine spec_intro Tryd.func129 rfl (by decide +kernel) (by rfl) fun w0 S0 hT => ?_
 refine wsr ?_
 refine oV (v_assign rfl) ?_
 refine rnf ?_
 refine w_seq ?_
 refine wsr ?_
 refine oV (v_move rfl) ?_
 refine oV (v_ln (l := a_s1) rfl (fun _ _ h => h) sl65) ?_
 refine oV (v_move rfl) ?_
 refine oV (v_ln (l := a_s2) rfl (fun _ _ h => h) sl65) ?_
 refine oV (v_neq rfl rfl) ?_
 refine rnf ?_
 refine w_condM h rfl (fun _ h => ?_) (fun _ h => ?_)
 ·
  refine wsr ?_
  refine oV (v_assign rfl) ?_
  refine rnf ?_
  refine w_ret ?_
  refine ret_nxt ?_
  refine ret_post (.tmp rfl .nil) .nil ?_
  obtain rfl := Option.some.inj h
  exact ⟨rfl, rfl⟩
 ·
  refine wkf ?_
  refine w_seq ?_
  refine wsr ?_
  refine oV (v_move rfl) ?_
  refine oV (v_ln (l := a_s1) rfl (fun _ _ h => h) sl65) ?_
  refine oV (v_move rfl) ?_
  refine rnf ?_
  refine w_block ?_
  refine w_lp (ι := Int) (γ := Unit) (fun q1 g1 => [(17, isv (q1))]) (fun q1 g1 => []) h () (mod_cons (j := 17) rfl (fun _ _ h => h) mod_nil) .nil (fun L2 q1 g1 Q15 h hL2 eL2 rL2 => ?_)
  refine wsr ?_
  refine oV (v_lss rfl rfl) ?_
  refine rnf ?_
  refine w_seq ?_
  refine w_condM h rfl (fun _ h => ?_) (fun _ h => ?_)
  ·
   refine wkf ?_
   refine w_seq ?_
   refine w_block ?_
   refine wsr ?_
   refine oV (v_move rfl) ?_
   refine cal_inv h fun y9 hy9 h => ?_
   refine oV (v_ix (l := a_s1) rfl (fun _ _ h => h) rfl sl65 hy9) ?_
   refine oV (v_loadI ty149 rfl) ?_
   refine oT (t_alloc _ ze149 fun b10 => ?_)
   refine oV (v_assign rfl) ?_
   refine oT (t_storeC (y' := (y9 : Raw)) ty149 rfl rfl (fun _ _ h => h) .here rfl ?_)
   refine rl_upd (upd_imm 8 .here rfl) ?_
   refine rnf ?_
   refine wsr ?_
   refine oV (v_move rfl) ?_
   refine oV (v_move rfl) ?_
   refine cal_inv h fun y11 hy11 h => ?_
   refine oV (v_ix (l := a_s2) rfl (fun _ _ h => h) rfl sl65 hy11) ?_
   refine oV (v_loadI ty149 rfl) ?_
   refine oT (t_alloc _ ze149 fun b12 => ?_)
   refine oT (t_storeC (y' := (y11 : Raw)) ty149 rfl rfl (fun _ _ h => h) .here rfl ?_)
   refine rl_upd (upd_imm 9 .here rfl) ?_
   refine rnf ?_
   refine wsr ?_
   refine oV (v_move rfl) ?_
   refine oV (v_loadI ty149 rfl) ?_
   refine oV (v_loadI ty149 rfl) ?_
   refine cal_inv h fun y13 hy13 h => ?_
   refine oT (t_callC rfl (.same rfl (.same rfl .nil)) (value_sameRaw_w hy13) hT .nil (fun R H' hR => ?_))
   obtain ⟨rfl, rfl⟩ := hR
   refine oV (v_not rfl) ?_
   refine rnf ?_
   refine w_condM h rfl (fun _ h => ?_) (fun _ h => ?_)
   ·
    refine wsr ?_
    refine oV (v_assign rfl) ?_
    refine rnf ?_
    refine w_ret ?_
    refine ret_block ?_
    refine ret_nxt ?_
    refine rL2 _ ?_
    refine ret_block ?_
    refine ret_nxt ?_
    refine ret_post (.tmp rfl .nil) .nil ?_
    obtain rfl := Option.some.inj h
    exact ⟨rfl, rfl⟩
   ·
    refine w_skip ?_
    refine fin_block ?_
    refine fin_nxt ?_
    refine w_region ?_
    refine ck_inv h fun q14 h => ?_
    refine oV (v_add rfl rfl q14) ?_
    refine oV (v_move rfl) ?_
    refine rl_nil ?_
    exact hL2 _ () h _ (join_imp 21 rfl rfl (mod_cons (j := 17) rfl (fun _ _ h => h) mod_nil) .nil)
  ·
   refine w_exit ?_
   refine exi_nxt ?_
   refine eL2 _ _ ?_
   refine exi_block ?_
   refine fin_nxt ?_
   refine wsr ?_
   refine oV (v_assign rfl) ?_
   refine rnf ?_
   refine w_ret ?_
   refine ret_post (.tmp rfl .nil) .nil ?_
   obtain rfl := Option.some.inj h
   exact ⟨rfl, rfl⟩


def slices_EqualFunc_Lapi_Value_Lapi_Value_api_Value_api_Value_C (f' : (List Val) → (List Val) → Option (Bool)) : Prop :=
 ∀ {a_s1 : (List Val)} {a_s2 : (List Val)} {r : Bool}, f' a_s1 a_s2 = some r → Ctr Tryd.prog 128 [isv (a_s1), isv (a_s2), clov 116 []] [] (fun R H => R = oneOf [isv (r)] ∧ H = [])
def value_Same_C (f' : Val → Val → Option (Bool)) : Prop :=
 ∀ {a_a : Val} {a_b : Val} {r : Bool}, f' a_a a_b = some r → Ctr Tryd.prog 116 [isv (a_a), isv (a_b)] [] (fun R H => R = oneOf [isv (r)] ∧ H = [])
theorem slices_EqualFunc_Lapi_Value_Lapi_Value_api_Value_api_Value_w0 {slices_EqualFunc_Lapi_Value_Lapi_Value_api_Value_api_Value' : (List Val) → (List Val) → Option (Bool)} {value_Same' : Val → Val → Option (Bool)} (h_slices_EqualFunc_Lapi_Value_Lapi_Value_api_Value_api_Value : slices_EqualFunc_Lapi_Value_Lapi_Value_api_Value_api_Value_C slices_EqualFunc_Lapi_Value_Lapi_Value_api_Value_api_Value') (h_value_Same : value_Same_C value_Same') : ∀ {a_s1 : (List Val)} {a_s2 : (List Val)} {r : Bool}, slices_EqualFunc_Lapi_Value_Lapi_Value_api_Value_api_Value_F slices_EqualFunc_Lapi_Value_Lapi_Value_api_Value_api_Value' value_Same' a_s1 a_s2 = some r → Ctr Tryd.prog 128 [isv (a_s1), isv (a_s2), clov 116 []] [] (fun R H => R = oneOf [isv (r)] ∧ H = []) := by
 intro a_s1 a_s2 r h
 unfold slices_EqualFunc_Lapi_Value_Lapi_Value_api_Value_api_Value_F at h
 refine spec_intro Tryd.func128 rfl (by decide +kernel) (by rfl) fun w0 S0 hT => ?_
 refine wsr ?_
 refine oV (v_assign rfl) ?_
 refine rnf ?_
 refine w_seq ?_
 refine wsr ?_
 refine oV (v_move rfl) ?_
 refine oV (v_ln (l := a_s1) rfl (fun _ _ h => h) sl64) ?_
 refine oV (v_move rfl) ?_
 refine oV (v_ln (l := a_s2) rfl (fun _ _ h => h) sl64) ?_
 refine oV (v_neq rfl rfl) ?_
 refine rnf ?_
 refine w_condM h rfl (fun _ h => ?_) (fun _ h => ?_)
 ·
  refine wsr ?_
  refine oV (v_assign rfl) ?_
  refine rnf ?_
  refine w_ret ?_
  refine ret_nxt ?_
  refine ret_post (.tmp rfl .nil) .nil ?_
  obtain rfl := Option.some.inj h
  exact ⟨rfl, rfl⟩
 ·
  refine wkf ?_
  refine w_seq ?_
  refine wsr ?_
  refine oV (v_move rfl) ?_
  refine oV (v_ln (l := a_s1) rfl (fun _ _ h => h) sl64) ?_
  refine oV (v_move rfl) ?_
  refine rnf ?_
  refine w_block ?_
  refine w_lp (ι := Int) (γ := Unit) (fun q1 g1 => [(17, isv (q1))]) (fun q1 g1 => []) h () (mod_cons (j := 17) rfl (fun _ _ h => h) mod_nil) .nil (fun L2 q1 g1 Q15 h hL2 eL2 rL2 => ?_)
  refine wsr ?_
  refine oV (v_lss rfl rfl) ?_
  refine rnf ?_
  refine w_seq ?_
  refine w_condM h rfl (fun _ h => ?_) (fun _ h => ?_)
  ·
   refine wkf ?_
   refine w_seq ?_
   refine w_block ?_
   refine wsr ?_
   refine oV (v_move rfl) ?_
   refine cal_inv h fun y9 hy9 h => ?_
   refine oV (v_ix (l := a_s1) rfl (fun _ _ h => h) rfl sl64 hy9) ?_
   refine oV (v_loadI ty67 rfl) ?_
   refine oT (t_alloc _ ze67 fun b10 => ?_)
   refine oV (v_assign rfl) ?_
   refine oT (t_storeC (y' := (y9 : Val)) ty67 rfl rfl (fun _ _ h => h) .here rfl ?_)
   refine rl_upd (upd_imm 8 .here rfl) ?_
   refine rnf ?_
   refine wsr ?_
   refine oV (v_move rfl) ?_
   refine oV (v_move rfl) ?_
   refine cal_inv h fun y11 hy11 h => ?_
   refine oV (v_ix (l := a_s2) rfl (fun _ _ h => h) rfl sl64 hy11) ?_
   refine oV (v_loadI ty67 rfl) ?_
   refine oT (t_alloc _ ze67 fun b12 => ?_)
   refine oT (t_storeC (y' := (y11 : Val)) ty67 rfl rfl (fun _ _ h => h) .here rfl ?_)
   refine rl_upd (upd_imm 9 .here rfl) ?_
   refine rnf ?_
   refine wsr ?_
   refine oV (v_move rfl) ?_
   refine oV (v_loadI ty67 rfl) ?_
   refine oV (v_loadI ty67 rfl) ?_
   refine cal_inv h fun y13 hy13 h => ?_
   refine oT (t_callC rfl (.same rfl (.same rfl .nil)) (h_value_Same hy13) hT .nil (fun R H' hR => ?_))
   obtain ⟨rfl, rfl⟩ := hR
   refine oV (v_not rfl) ?_
   refine rnf ?_
   refine w_condM h rfl (fun _ h => ?_) (fun _ h => ?_)
   ·
    refine wsr ?_
    refine oV (v_assign rfl) ?_
    refine rnf ?_
    refine w_ret ?_
    refine ret_block ?_
    refine ret_nxt ?_
    refine rL2 _ ?_
    refine ret_block ?_
    refine ret_nxt ?_
    refine ret_post (.tmp rfl .nil) .nil ?_
    obtain rfl := Option.some.inj h
    exact ⟨rfl, rfl⟩
   ·
    refine w_skip ?_
    refine fin_block ?_
    refine fin_nxt ?_
    refine w_region ?_
    refine ck_inv h fun q14 h => ?_
    refine oV (v_add rfl rfl q14) ?_
    refine oV (v_move rfl) ?_
    refine rl_nil ?_
    exact hL2 _ () h _ (join_imp 21 rfl rfl (mod_cons (j := 17) rfl (fun _ _ h => h) mod_nil) .nil)
  ·
   refine w_exit ?_
   refine exi_nxt ?_
   refine eL2 _ _ ?_
   refine exi_block ?_
   refine fin_nxt ?_
   refine wsr ?_
   refine oV (v_assign rfl) ?_
   refine rnf ?_
   refine w_ret ?_
   refine ret_post (.tmp rfl .nil) .nil ?_
   obtain rfl := Option.some.inj h
   exact ⟨rfl, rfl⟩

theorem value_Same_w0 {slices_EqualFunc_Lapi_Value_Lapi_Value_api_Value_api_Value' : (List Val) → (List Val) → Option (Bool)} {value_Same' : Val → Val → Option (Bool)} (h_slices_EqualFunc_Lapi_Value_Lapi_Value_api_Value_api_Value : slices_EqualFunc_Lapi_Value_Lapi_Value_api_Value_api_Value_C slices_EqualFunc_Lapi_Value_Lapi_Value_api_Value_api_Value') (h_value_Same : value_Same_C value_Same') : ∀ {a_a : Val} {a_b : Val} {r : Bool}, value_Same_F slices_EqualFunc_Lapi_Value_Lapi_Value_api_Value_api_Value' value_Same' a_a a_b = some r → Ctr Tryd.prog 116 [isv (a_a), isv (a_b)] [] (fun R H => R = oneOf [isv (r)] ∧ H = []) := by
 intro a_a a_b r h
 unfold value_Same_F at h
 refine spec_intro Tryd.func116 rfl (by decide +kernel) (by rfl) fun w0 S0 hT => ?_
 refine wsr ?_
 refine oT (t_boxIC (y := a_a) rfl (fun _ _ h => h) ?_)
 refine oT (t_boxIC (y := a_b) rfl (fun _ _ h => h) ?_)
 refine oV (v_assign rfl) ?_
 refine rnf ?_
 refine wsr ?_
 refine oV (v_fi rfl Val.f0 fd67_0 rfl (z := a_a.kind)) ?_
 refine oV (v_loadI ty3 rfl) ?_
 refine oV (v_fi rfl Val.f0 fd67_0 rfl (z := a_b.kind)) ?_
 refine oV (v_loadI ty3 rfl) ?_
 refine oV (v_eql rfl rfl) ?_
 refine oV (v_move rfl) ?_
 refine rl_j (ι := Bool) (γ := Unit) (fun q1 g1 => [(16, isv (q1))]) (fun q1 g1 => []) .nil h 6 rfl (fun q1 g1 h => ?_) (fun J2 h hJ2 => ?_)
 ·
  refine oV (v_move rfl) ?_
  refine rl_j (ι := Bool) (γ := Unit) (fun q4 g4 => [(23, isv (q4))]) (fun q4 g4 => []) .nil h 6 rfl (fun q4 g4 h => ?_) (fun J5 h hJ5 => ?_)
  ·
   refine oV (v_move rfl) ?_
   refine rl_j (ι := Bool) (γ := Unit) (fun q8 g8 => [(30, isv (q8))]) (fun q8 g8 => []) .nil h 6 rfl (fun q8 g8 h => ?_) (fun J9 h hJ9 => ?_)
   ·
    refine oV (v_move rfl) ?_
    refine rl_j (ι := Bool) (γ := Unit) (fun q12 g12 => [(37, isv (q12))]) (fun q12 g12 => []) .nil h 6 rfl (fun q12 g12 h => ?_) (fun J13 h hJ13 => ?_)
    ·
     refine oV (v_move rfl) ?_
     refine rl_j (ι := Bool) (γ := Unit) (fun q15 g15 => [(44, isv (q15))]) (fun q15 g15 => []) .nil h 6 rfl (fun q15 g15 h => ?_) (fun J16 h hJ16 => ?_)
     ·
      refine oV (v_assign rfl) ?_
      refine rnf ?_
      refine w_ret ?_
      refine ret_post (.tmp rfl .nil) .nil ?_
      obtain rfl := Option.some.inj h
      exact ⟨rfl, rfl⟩
     ·
      refine rl_condM (j := 38) h rfl (fun g17 h => ?_) (fun g17 h => ?_)
      ·
       refine op_take rfl rfl (dj := 38) rfl g17 (OpV.t (v_fi rfl Val.f5 fd67_5 rfl (z := a_a.more)) ?_)
       refine op_take rfl rfl (dj := 38) rfl g17 (OpV.t (v_loadI ty65 rfl) ?_)
       refine op_take rfl rfl (dj := 38) rfl g17 (OpV.t (v_fi rfl Val.f5 fd67_5 rfl (z := a_b.more)) ?_)
       refine op_take rfl rfl (dj := 38) rfl g17 (OpV.t (v_loadI ty65 rfl) ?_)
       refine cal_inv h fun y18 hy18 h => ?_
       refine op_take rfl rfl (dj := 38) rfl g17 (t_call (slices_EqualFunc_Lapi_Raw_Lapi_Raw_api_Raw_api_Raw_w hy18) hT (.same rfl (.same rfl (.same rfl .nil))) .nil (fun R H' hR => ?_))
       obtain ⟨rfl, rfl⟩ := hR
       refine oV (v_pick_t rfl g17 rfl) ?_
       exact hJ16 _ () h _ (join_imp 6 rfl rfl (mod_cons (j := 44) rfl (fun _ _ h => h) mod_nil) .nil)
      ·
       refine op_pass rfl (dj := 38) rfl g17 ?_
       refine op_pass rfl (dj := 38) rfl g17 ?_
       refine op_pass rfl (dj := 38) rfl g17 ?_
       refine op_pass rfl (dj := 38) rfl g17 ?_
       refine op_pass rfl (dj := 38) rfl g17 ?_
       refine oV (v_pick_f rfl g17 rfl) ?_
       exact hJ16 _ () h _ (join_imp 6 rfl rfl (mod_cons (j := 44) rfl (fun _ _ h => h) mod_nil) .nil)
    ·
     refine rl_condM (j := 31) h rfl (fun g14 h => ?_) (fun g14 h => ?_)
     ·
      refine op_take rfl rfl (dj := 31) rfl g14 (OpV.t (v_fi rfl Val.f4 fd67_4 rfl (z := a_a.rule)) ?_)
      refine op_take rfl rfl (dj := 31) rfl g14 (OpV.t (v_loadI ty3 rfl) ?_)
      refine op_take rfl rfl (dj := 31) rfl g14 (OpV.t (v_fi rfl Val.f4 fd67_4 rfl (z := a_b.rule)) ?_)
      refine op_take rfl rfl (dj := 31) rfl g14 (OpV.t (v_loadI ty3 rfl) ?_)
      refine op_take rfl rfl (dj := 31) rfl g14 (OpV.t (v_eql rfl rfl) ?_)
      refine oV (v_pick_t rfl g14 rfl) ?_
      exact hJ13 _ () h _ (join_imp 6 rfl rfl (mod_cons (j := 37) rfl (fun _ _ h => h) mod_nil) .nil)
     ·
      refine op_pass rfl (dj := 31) rfl g14 ?_
      refine op_pass rfl (dj := 31) rfl g14 ?_
      refine op_pass rfl (dj := 31) rfl g14 ?_
      refine op_pass rfl (dj := 31) rfl g14 ?_
      refine op_pass rfl (dj := 31) rfl g14 ?_
      refine oV (v_pick_f rfl g14 rfl) ?_
      exact hJ13 _ () h _ (join_imp 6 rfl rfl (mod_cons (j := 37) rfl (fun _ _ h => h) mod_nil) .nil)
   ·
    refine rl_condM (j := 24) h rfl (fun g10 h => ?_) (fun g10 h => ?_)
    ·
     refine op_take rfl rfl (dj := 24) rfl g10 (OpV.t (v_fi rfl Val.f3 fd67_3 rfl (z := a_a.l)) ?_)
     refine op_take rfl rfl (dj := 24) rfl g10 (OpV.t (v_loadI ty64 rfl) ?_)
     refine op_take rfl rfl (dj := 24) rfl g10 (OpV.t (v_fi rfl Val.f3 fd67_3 rfl (z := a_b.l)) ?_)
     refine op_take rfl rfl (dj := 24) rfl g10 (OpV.t (v_loadI ty64 rfl) ?_)
     refine cal_inv h fun y11 hy11 h => ?_
     refine op_take rfl rfl (dj := 24) rfl g10 (t_call (h_slices_EqualFunc_Lapi_Value_Lapi_Value_api_Value_api_Value hy11) hT (.same rfl (.same rfl (.same rfl .nil))) .nil (fun R H' hR => ?_))
     obtain ⟨rfl, rfl⟩ := hR
     refine oV (v_pick_t rfl g10 rfl) ?_
     exact hJ9 _ () h _ (join_imp 6 rfl rfl (mod_cons (j := 30) rfl (fun _ _ h => h) mod_nil) .nil)
    ·
     refine op_pass rfl (dj := 24) rfl g10 ?_
     refine op_pass rfl (dj := 24) rfl g10 ?_
     refine op_pass rfl (dj := 24) rfl g10 ?_
     refine op_pass rfl (dj := 24) rfl g10 ?_
     refine op_pass rfl (dj := 24) rfl g10 ?_
     refine oV (v_pick_f rfl g10 rfl) ?_
     exact hJ9 _ () h _ (join_imp 6 rfl rfl (mod_cons (j := 30) rfl (fun _ _ h => h) mod_nil) .nil)
  ·
   refine rl_condM (j := 17) h rfl (fun g6 h => ?_) (fun g6 h => ?_)
   ·
    refine op_take rfl rfl (dj := 17) rfl g6 (OpV.t (v_fi rfl Val.f2 fd67_2 rfl (z := a_a.b)) ?_)
    refine op_take rfl rfl (dj := 17) rfl g6 (OpV.t (v_loadI ty63 rfl) ?_)
    refine op_take rfl rfl (dj := 17) rfl g6 (OpV.t (v_fi rfl Val.f2 fd67_2 rfl (z := a_b.b)) ?_)
    refine op_take rfl rfl (dj := 17) rfl g6 (OpV.t (v_loadI ty63 rfl) ?_)
    refine cal_inv h fun y7 hy7 h => ?_
    refine op_take rfl rfl (dj := 17) rfl g6 (t_call (bytes_Equal_w hy7) hT (.same rfl (.same rfl .nil)) .nil (fun R H' hR => ?_))
    obtain ⟨rfl, rfl⟩ := hR
    refine oV (v_pick_t rfl g6 rfl) ?_
    exact hJ5 _ () h _ (join_imp 6 rfl rfl (mod_cons (j := 23) rfl (fun _ _ h => h) mod_nil) .nil)
   ·
    refine op_pass rfl (dj := 17) rfl g6 ?_
    refine op_pass rfl (dj := 17) rfl g6 ?_
    refine op_pass rfl (dj := 17) rfl g6 ?_
    refine op_pass rfl (dj := 17) rfl g6 ?_
    refine op_pass rfl (dj := 17) rfl g6 ?_
    refine oV (v_pick_f rfl g6 rfl) ?_
    exact hJ5 _ () h _ (join_imp 6 rfl rfl (mod_cons (j := 23) rfl (fun _ _ h => h) mod_nil) .nil)
 ·
  refine rl_condM (j := 10) h rfl (fun g3 h => ?_) (fun g3 h => ?_)
  ·
   refine op_take rfl rfl (dj := 10) rfl g3 (OpV.t (v_fi rfl Val.f1 fd67_1 rfl (z := a_a.n)) ?_)
   refine op_take rfl rfl (dj := 10) rfl g3 (OpV.t (v_loadI ty2 rfl) ?_)
   refine op_take rfl rfl (dj := 10) rfl g3 (OpV.t (v_fi rfl Val.f1 fd67_1 rfl (z := a_b.n)) ?_)
   refine op_take rfl rfl (dj := 10) rfl g3 (OpV.t (v_loadI ty2 rfl) ?_)
   refine op_take rfl rfl (dj := 10) rfl g3 (OpV.t (v_eql rfl rfl) ?_)
   refine oV (v_pick_t rfl g3 rfl) ?_
   exact hJ2 _ () h _ (join_imp 6 rfl rfl (mod_cons (j := 16) rfl (fun _ _ h => h) mod_nil) .nil)
  ·
   refine op_pass rfl (dj := 10) rfl g3 ?_
   refine op_pass rfl (dj := 10) rfl g3 ?_
   refine op_pass rfl (dj := 10) rfl g3 ?_
   refine op_pass rfl (dj := 10) rfl g3 ?_
   refine op_pass rfl (dj := 10) rfl g3 ?_
   refine oV (v_pick_f rfl g3 rfl) ?_
   exact hJ2 _ () h _ (join_imp 6 rfl rfl (mod_cons (j := 16) rfl (fun _ _ h => h) mod_nil) .nil)

theorem slices_EqualFunc_Lapi_Value_Lapi_Value_api_Value_api_Value_grp_w : ∀ n, slices_EqualFunc_Lapi_Value_Lapi_Value_api_Value_api_Value_C (slices_EqualFunc_Lapi_Value_Lapi_Value_api_Value_api_Value n) ∧ value_Same_C (value_Same n)
 | 0 => ⟨fun h => (by cases h), fun h => (by cases h)⟩
 | n + 1 => by
  obtain ⟨h0, h1⟩ := slices_EqualFunc_Lapi_Value_Lapi_Value_api_Value_api_Value_grp_w n
  exact ⟨slices_EqualFunc_Lapi_Value_Lapi_Value_api_Value_api_Value_w0 h0 h1, value_Same_w0 h0 h1⟩
theorem slices_EqualFunc_Lapi_Value_Lapi_Value_api_Value_api_Value_w (n : Nat) : slices_EqualFunc_Lapi_Value_Lapi_Value_api_Value_api_Value_C (slices_EqualFunc_Lapi_Value_Lapi_Value_api_Value_api_Value n) := (slices_EqualFunc_Lapi_Value_Lapi_Value_api_Value_api_Value_grp_w n).1
theorem value_Same_w (n : Nat) : value_Same_C (value_Same n) := (slices_EqualFunc_Lapi_Value_Lapi_Value_api_Value_api_Value_grp_w n).2

def extend_walker_field_C (f' : GXwk → GFld → GFld → Option (Bool × GXwk)) : Prop :=
 ∀ {a_w_ : GXwk} {a_f : GFld} {a_g : GFld} {b_a_w_ : Nat} {r : Bool × GXwk}, f' a_w_ a_f a_g = some r → Ctr Tryd.prog 89 [ptrv b_a_w_ (Fld.id GXwk), isv (a_f), isv (a_g)] [boxE b_a_w_ (a_w_ : GXwk)] (fun R H => R = oneOf [isv (r.1)] ∧ H = [boxE b_a_w_ (r.2)])
def extend_walker_extends_C (f' : GXwk → Int → Int → Option (Bool × GXwk)) : Prop :=
 ∀ {a_w_ : GXwk} {a_i : Int} {a_k : Int} {b_a_w_ : Nat} {r : Bool × GXwk}, f' a_w_ a_i a_k = some r → Ctr Tryd.prog 35 [ptrv b_a_w_ (Fld.id GXwk), isv (a_i), isv (a_k)] [boxE b_a_w_ (a_w_ : GXwk)] (fun R H => R = oneOf [isv (r.1)] ∧ H = [boxE b_a_w_ (r.2)])
def extend_walker_fields_C (f' : GXwk → GTyp → GTyp → Option (Bool × GXwk)) : Prop :=
 ∀ {a_w_ : GXwk} {a_x : GTyp} {a_y : GTyp} {b_a_w_ : Nat} {r : Bool × GXwk}, f' a_w_ a_x a_y = some r → Ctr Tryd.prog 63 [ptrv b_a_w_ (Fld.id GXwk), isv (a_x), isv (a_y)] [boxE b_a_w_ (a_w_ : GXwk)] (fun R H => R = oneOf [isv (r.1)] ∧ H = [boxE b_a_w_ (r.2)])
theorem extend_walker_field_w0 {extend_walker_field' : GXwk → GFld → GFld → Option (Bool × GXwk)} {extend_walker_extends' : GXwk → Int → Int → Option (Bool × GXwk)} {extend_walker_fields' : GXwk → GTyp → GTyp → Option (Bool × GXwk)} (h_extend_walker_field : extend_walker_field_C extend_walker_field') (h_extend_walker_extends : extend_walker_extends_C extend_walker_extends') (h_extend_walker_fields : extend_walker_fields_C extend_walker_fields') : ∀ {a_w_ : GXwk} {a_f : GFld} {a_g : GFld} {b_a_w_ : Nat} {r : Bool × GXwk}, extend_walker_field_F extend_walker_field' extend_walker_extends' extend_walker_fields' a_w_ a_f a_g = some r → Ctr Tryd.prog 89 [ptrv b_a_w_ (Fld.id GXwk), isv (a_f), isv (a_g)] [boxE b_a_w_ (a_w_ : GXwk)] (fun R H => R = oneOf [isv (r.1)] ∧ H = [boxE b_a_w_ (r.2)]) := by
 intro a_w_ a_f a_g b_a_w_ r h
 unfold extend_walker_field_F at h
 refine spec_intro Tryd.func89 rfl (by decide +kernel) (by rfl) fun w0 S0 hT => ?_
 refine wsr ?_
 refine oT (t_boxIC (y := a_f) rfl (fun _ _ h => h) ?_)
 refine oT (t_boxIC (y := a_g) rfl (fun _ _ h => h) ?_)
 refine oV (v_assign rfl) ?_
 refine rnf ?_
 refine wsr ?_
 refine oV (v_fi rfl GFld.f0 fd69_0 rfl (z := a_f.name)) ?_
 refine oV (v_loadI ty9 rfl) ?_
 refine oV (v_fi rfl GFld.f0 fd69_0 rfl (z := a_g.name)) ?_
 refine oV (v_loadI ty9 rfl) ?_
 refine oV (v_eqA eq9 rfl rfl) ?_
 refine oV (v_move rfl) ?_
 refine rl_j (ι := Bool) (γ := Unit) (fun q1 g1 => [(18, isv (q1))]) (fun q1 g1 => []) .nil h 6 rfl (fun q1 g1 h => ?_) (fun J2 h hJ2 => ?_)
 ·
  refine oV (v_move rfl) ?_
  refine rl_j (ι := Bool) (γ := Unit) (fun q4 g4 => [(25, isv (q4))]) (fun q4 g4 => []) .nil h 6 rfl (fun q4 g4 h => ?_) (fun J5 h hJ5 => ?_)
  ·
   refine oV (v_move rfl) ?_
   refine rl_j (ι := Bool) (γ := Unit) (fun q7 g7 => [(32, isv (q7))]) (fun q7 g7 => []) .nil h 6 rfl (fun q7 g7 h => ?_) (fun J8 h hJ8 => ?_)
   ·
    refine oV (v_move rfl) ?_
    refine rl_j (ι := Bool) (γ := Unit) (fun q11 g11 => [(39, isv (q11))]) (fun q11 g11 => []) .nil h 6 rfl (fun q11 g11 h => ?_) (fun J12 h hJ12 => ?_)
    ·
     refine oV (v_move rfl) ?_
     refine rl_j (ι := Bool × GXwk) (γ := Unit) (fun q14 g14 => [(47, isv (q14.1))]) (fun q14 g14 => [boxE b_a_w_ (q14.2 : GXwk)]) (.cons .here .nil) h 7 rfl (fun q14 g14 h => ?_) (fun J15 h hJ15 => ?_)
     ·
      refine oV (v_assign rfl) ?_
      refine rnf ?_
      refine w_ret ?_
      refine ret_post (.tmp rfl .nil) (.cons .here .nil) ?_
      obtain rfl := Option.some.inj h
      exact ⟨rfl, rfl⟩
     ·
      refine rl_condM (j := 40) h rfl (fun g16 h => ?_) (fun g16 h => ?_)
      ·
       refine op_take rfl rfl (dj := 40) rfl g16 (OpV.t (v_move rfl) ?_)
       refine op_take rfl rfl (dj := 40) rfl g16 (OpV.t (v_fi rfl GFld.f1 fd69_1 rfl (z := a_f.ty)) ?_)
       refine op_take rfl rfl (dj := 40) rfl g16 (OpV.t (v_loadI ty3 rfl) ?_)
       refine op_take rfl rfl (dj := 40) rfl g16 (OpV.t (v_fi rfl GFld.f1 fd69_1 rfl (z := a_g.ty)) ?_)
       refine op_take rfl rfl (dj := 40) rfl g16 (OpV.t (v_loadI ty3 rfl) ?_)
       refine cal_inv h fun y17 hy17 h => ?_
       refine op_take rfl rfl (dj := 40) rfl g16 (t_call (h_extend_walker_extends hy17) hT (.same rfl (.same rfl (.same rfl .nil))) (.cons .here .nil) (fun R H' hR => ?_))
       obtain ⟨rfl, rfl⟩ := hR
       refine oV (v_pick_t rfl g16 rfl) ?_
       exact hJ15 _ () h _ (join_imp 7 rfl rfl (mod_cons (j := 47) rfl (fun _ _ h => h) mod_nil) (.cons .here .nil))
      ·
       refine op_pass rfl (dj := 40) rfl g16 ?_
       refine op_pass rfl (dj := 40) rfl g16 ?_
       refine op_pass rfl (dj := 40) rfl g16 ?_
       refine op_pass rfl (dj := 40) rfl g16 ?_
       refine op_pass rfl (dj := 40) rfl g16 ?_
       refine op_pass rfl (dj := 40) rfl g16 ?_
       refine oV (v_pick_f rfl g16 rfl) ?_
       exact hJ15 _ () h _ (join_imp 7 rfl rfl (mod_cons (j := 47) rfl (fun _ _ h => h) mod_nil) (.cons .here .nil))
    ·
     refine rl_condM (j := 33) h rfl (fun g13 h => ?_) (fun g13 h => ?_)
     ·
      refine op_take rfl rfl (dj := 33) rfl g13 (OpV.t (v_fi rfl GFld.f5 fd69_5 rfl (z := a_f.group)) ?_)
      refine op_take rfl rfl (dj := 33) rfl g13 (OpV.t (v_loadI ty3 rfl) ?_)
      refine op_take rfl rfl (dj := 33) rfl g13 (OpV.t (v_fi rfl GFld.f5 fd69_5 rfl (z := a_g.group)) ?_)
      refine op_take rfl rfl (dj := 33) rfl g13 (OpV.t (v_loadI ty3 rfl) ?_)
      refine op_take rfl rfl (dj := 33) rfl g13 (OpV.t (v_eql rfl rfl) ?_)
      refine oV (v_pick_t rfl g13 rfl) ?_
      exact hJ12 _ () h _ (join_imp 6 rfl rfl (mod_cons (j := 39) rfl (fun _ _ h => h) mod_nil) (.cons .here .nil))
     ·
      refine op_pass rfl (dj := 33) rfl g13 ?_
      refine op_pass rfl (dj := 33) rfl g13 ?_
      refine op_pass rfl (dj := 33) rfl g13 ?_
      refine op_pass rfl (dj := 33) rfl g13 ?_
      refine op_pass rfl (dj := 33) rfl g13 ?_
      refine oV (v_pick_f rfl g13 rfl) ?_
      exact hJ12 _ () h _ (join_imp 6 rfl rfl (mod_cons (j := 39) rfl (fun _ _ h => h) mod_nil) (.cons .here .nil))
   ·
    refine rl_condM (j := 26) h rfl (fun g9 h => ?_) (fun g9 h => ?_)
    ·
     refine op_take rfl rfl (dj := 26) rfl g9 (OpV.t (v_fi rfl GFld.f4 fd69_4 rfl (z := a_f.dflt)) ?_)
     refine op_take rfl rfl (dj := 26) rfl g9 (OpV.t (v_loadI ty67 rfl) ?_)
     refine op_take rfl rfl (dj := 26) rfl g9 (OpV.t (v_fi rfl GFld.f4 fd69_4 rfl (z := a_g.dflt)) ?_)
     refine op_take rfl rfl (dj := 26) rfl g9 (OpV.t (v_loadI ty67 rfl) ?_)
     refine cal_inv h fun y10 hy10 h => ?_
     refine op_take rfl rfl (dj := 26) rfl g9 (t_call (value_Same_w fuel hy10) hT (.same rfl (.same rfl .nil)) .nil (fun R H' hR => ?_))
     obtain ⟨rfl, rfl⟩ := hR
     refine oV (v_pick_t rfl g9 rfl) ?_
     exact hJ8 _ () h _ (join_imp 6 rfl rfl (mod_cons (j := 32) rfl (fun _ _ h => h) mod_nil) (.cons .here .nil))
    ·
     refine op_pass rfl (dj := 26) rfl g9 ?_
     refine op_pass rfl (dj := 26) rfl g9 ?_
     refine op_pass rfl (dj := 26) rfl g9 ?_
     refine op_pass rfl (dj := 26) rfl g9 ?_
     refine op_pass rfl (dj := 26) rfl g9 ?_
     refine oV (v_pick_f rfl g9 rfl) ?_
     exact hJ8 _ () h _ (join_imp 6 rfl rfl (mod_cons (j := 32) rfl (fun _ _ h => h) mod_nil) (.cons .here .nil))
  ·
   refine rl_condM (j := 19) h rfl (fun g6 h => ?_) (fun g6 h => ?_)
   ·
    refine op_take rfl rfl (dj := 19) rfl g6 (OpV.t (v_fi rfl GFld.f3 fd69_3 rfl (z := a_f.has)) ?_)
    refine op_take rfl rfl (dj := 19) rfl g6 (OpV.t (v_loadI ty4 rfl) ?_)
    refine op_take rfl rfl (dj := 19) rfl g6 (OpV.t (v_fi rfl GFld.f3 fd69_3 rfl (z := a_g.has)) ?_)
    refine op_take rfl rfl (dj := 19) rfl g6 (OpV.t (v_loadI ty4 rfl) ?_)
    refine op_take rfl rfl (dj := 19) rfl g6 (OpV.t (v_eqA eq4 rfl rfl) ?_)
    refine oV (v_pick_t rfl g6 rfl) ?_
    exact hJ5 _ () h _ (join_imp 6 rfl rfl (mod_cons (j := 25) rfl (fun _ _ h => h) mod_nil) (.cons .here .nil))
   ·
    refine op_pass rfl (dj := 19) rfl g6 ?_
    refine op_pass rfl (dj := 19) rfl g6 ?_
    refine op_pass rfl (dj := 19) rfl g6 ?_
    refine op_pass rfl (dj := 19) rfl g6 ?_
    refine op_pass rfl (dj := 19) rfl g6 ?_
    refine oV (v_pick_f rfl g6 rfl) ?_
    exact hJ5 _ () h _ (join_imp 6 rfl rfl (mod_cons (j := 25) rfl (fun _ _ h => h) mod_nil) (.cons .here .nil))
 ·
  refine rl_condM (j := 12) h rfl (fun g3 h => ?_) (fun g3 h => ?_)
  ·
   refine op_take rfl rfl (dj := 12) rfl g3 (OpV.t (v_fi rfl GFld.f2 fd69_2 rfl (z := a_f.optional)) ?_)
   refine op_take rfl rfl (dj := 12) rfl g3 (OpV.t (v_loadI ty4 rfl) ?_)
   refine op_take rfl rfl (dj := 12) rfl g3 (OpV.t (v_fi rfl GFld.f2 fd69_2 rfl (z := a_g.optional)) ?_)
   refine op_take rfl rfl (dj := 12) rfl g3 (OpV.t (v_loadI ty4 rfl) ?_)
   refine op_take rfl rfl (dj := 12) rfl g3 (OpV.t (v_eqA eq4 rfl rfl) ?_)
   refine oV (v_pick_t rfl g3 rfl) ?_
   exact hJ2 _ () h _ (join_imp 6 rfl rfl (mod_cons (j := 18) rfl (fun _ _ h => h) mod_nil) (.cons .here .nil))
  ·
   refine op_pass rfl (dj := 12) rfl g3 ?_
   refine op_pass rfl (dj := 12) rfl g3 ?_
   refine op_pass rfl (dj := 12) rfl g3 ?_
   refine op_pass rfl (dj := 12) rfl g3 ?_
   refine op_pass rfl (dj := 12) rfl g3 ?_
   refine oV (v_pick_f rfl g3 rfl) ?_
   exact hJ2 _ () h _ (join_imp 6 rfl rfl (mod_cons (j := 18) rfl (fun _ _ h => h) mod_nil) (.cons .here .nil))

theorem extend_walker_extends_w0 {extend_walker_field' : GXwk → GFld → GFld → Option (Bool × GXwk)} {extend_walker_extends' : GXwk → Int → Int → Option (Bool × GXwk)} {extend_walker_fields' : GXwk → GTyp → GTyp → Option (Bool × GXwk)} (h_extend_walker_field : extend_walker_field_C extend_walker_field') (h_extend_walker_extends : extend_walker_extends_C extend_walker_extends') (h_extend_walker_fields : extend_walker_fields_C extend_walker_fields') : ∀ {a_w_ : GXwk} {a_i : Int} {a_k : Int} {b_a_w_ : Nat} {r : Bool × GXwk}, extend_walker_extends_F extend_walker_field' extend_walker_extends' extend_walker_fields' a_w_ a_i a_k = some r → Ctr Tryd.prog 35 [ptrv b_a_w_ (Fld.id GXwk), isv (a_i), isv (a_k)] [boxE b_a_w_ (a_w_ : GXwk)] (fun R H => R = oneOf [isv (r.1)] ∧ H = [boxE b_a_w_ (r.2)]) := by
 intro a_w_ a_i a_k b_a_w_ r h
 unfold extend_walker_extends_F at h
 refine spec_intro Tryd.func35 rfl (by decide +kernel) (by rfl) fun w0 S0 hT => ?_
 refine wsr ?_
 refine oV (v_assign rfl) ?_
 refine rnf ?_
 refine wsr ?_
 refine oV (v_move rfl) ?_
 refine oV (v_nilCheck rfl) ?_
 refine oV (v_fa rfl GXwk.f0 fd84_0) ?_
 refine oT (t_loadC (R := isv (a_w_.sides)) ty82 rfl .here (fun _ _ h => h) ?_)
 refine oV (v_move rfl) ?_
 refine oV (v_move rfl) ?_
 refine cal_inv h fun y1 hy1 h => ?_
 refine oT (t_call (extend_sides_types_w hy1) hT (.same rfl (.same rfl (.same rfl .nil))) .nil (fun R H' hR => ?_))
 obtain ⟨rfl, rfl⟩ := hR
 refine oV (v_move rfl) ?_
 refine oV (v_extract rfl rfl) ?_
 refine oV (v_extract rfl rfl) ?_
 refine oV (v_extract rfl rfl) ?_
 refine oT (t_alloc _ ze58 fun b2 => ?_)
 refine oT (t_alloc _ ze58 fun b3 => ?_)
 refine oT (t_storeC (y' := (y1.1 : GTyp)) ty58 rfl rfl (fun _ _ h => h) (.there .here) rfl ?_)
 refine rl_upd (upd_imm 7 .here rfl) ?_
 refine oT (t_storeC (y' := (y1.2.1 : GTyp)) ty58 rfl rfl (fun _ _ h => h) .here rfl ?_)
 refine rl_upd (upd_imm 8 .here rfl) ?_
 refine oV (v_assign rfl) ?_
 refine rnf ?_
 refine w_seq ?_
 refine wsr ?_
 refine oV (v_move rfl) ?_
 refine oV (v_nilCheck rfl) ?_
 refine oV (v_fa rfl GXwk.f1 fd84_1) ?_
 refine oT (t_loadC (R := isv (a_w_.left)) ty3 rfl .here (fun _ _ h => h) ?_)
 refine ck_inv h fun q4 h => ?_
 refine oV (v_sub rfl rfl q4) ?_
 refine oV (v_nilCheck rfl) ?_
 refine oV (v_fa rfl GXwk.f1 fd84_1) ?_
 refine oT (t_storeC (y' := ({ a_w_ with left := (a_w_.left - (1 : Int)) } : GXwk)) ty3 rfl rfl (fun _ _ h => h) .here rfl ?_)
 refine rnf ?_
 refine wsr ?_
 refine oV (v_move rfl) ?_
 refine oV (v_not rfl) ?_
 refine oV (v_move rfl) ?_
 refine rl_j (ι := Bool) (γ := Unit) (fun q5 g5 => [(36, isv (q5))]) (fun q5 g5 => []) .nil h 6 rfl (fun q5 g5 h => ?_) (fun J6 h hJ6 => ?_)
 ·
  refine oV (v_move rfl) ?_
  refine rl_j (ι := Bool) (γ := Unit) (fun q8 g8 => [(43, isv (q8))]) (fun q8 g8 => []) .nil h 6 rfl (fun q8 g8 h => ?_) (fun J9 h hJ9 => ?_)
  ·
   refine oV (v_move rfl) ?_
   refine rl_j (ι := Bool) (γ := Unit) (fun q11 g11 => [(51, isv (q11))]) (fun q11 g11 => []) .nil h 7 rfl (fun q11 g11 h => ?_) (fun J12 h hJ12 => ?_)
   ·
    refine oV (v_move rfl) ?_
    refine rl_j (ι := Bool) (γ := Unit) (fun q15 g15 => [(58, isv (q15))]) (fun q15 g15 => []) .nil h 6 rfl (fun q15 g15 h => ?_) (fun J16 h hJ16 => ?_)
    ·
     refine oV (v_move rfl) ?_
     refine rl_j (ι := Bool) (γ := Unit) (fun q18 g18 => [(65, isv (q18))]) (fun q18 g18 => []) .nil h 6 rfl (fun q18 g18 h => ?_) (fun J19 h hJ19 => ?_)
     ·
      refine rnf ?_
      refine w_condM h rfl (fun _ h => ?_) (fun _ h => ?_)
      ·
       refine wsr ?_
       refine oV (v_assign rfl) ?_
       refine rnf ?_
       refine w_ret ?_
       refine ret_nxt ?_
       refine ret_post (.tmp rfl .nil) (.cons .here .nil) ?_
       obtain rfl := Option.some.inj h
       exact ⟨rfl, rfl⟩
      ·
       refine wkf ?_
       refine w_seq ?_
       refine wsr ?_
       refine oV (v_fi rfl GTyp.f0 fd58_0 rfl (z := y1.1.kind)) ?_
       refine oV (v_loadI ty3 rfl) ?_
       refine rnf ?_
       refine w_block ?_
       refine wsr ?_
       refine oV (v_eql rfl rfl) ?_
       refine oV (v_assign rfl) ?_
       refine rnf ?_
       refine w_condM h rfl (fun _ h => ?_) (fun _ h => ?_)
       ·
        refine wsr ?_
        refine oV (v_move rfl) ?_
        refine oV (v_fi rfl GTyp.f7 fd58_7 rfl (z := y1.1.of)) ?_
        refine oV (v_loadI ty3 rfl) ?_
        refine oV (v_fi rfl GTyp.f7 fd58_7 rfl (z := y1.2.1.of)) ?_
        refine oV (v_loadI ty3 rfl) ?_
        refine cal_inv h fun y21 hy21 h => ?_
        refine oT (t_call (h_extend_walker_extends hy21) hT (.same rfl (.same rfl (.same rfl .nil))) (.cons .here .nil) (fun R H' hR => ?_))
        obtain ⟨rfl, rfl⟩ := hR
        refine oV (v_assign rfl) ?_
        refine rnf ?_
        refine w_ret ?_
        refine ret_block ?_
        refine ret_nxt ?_
        refine ret_post (.tmp rfl .nil) (.cons .here .nil) ?_
        obtain rfl := Option.some.inj h
        exact ⟨rfl, rfl⟩
       ·
        refine wsr ?_
        refine oV (v_eql rfl rfl) ?_
        refine oV (v_assign rfl) ?_
        refine rnf ?_
        refine w_condM h rfl (fun _ h => ?_) (fun _ h => ?_)
        ·
         refine wsr ?_
         refine oV (v_loadI ty58 rfl) ?_
         refine oV (v_loadI ty58 rfl) ?_
         refine cal_inv h fun y22 hy22 h => ?_
         refine oT (t_call (extend_items_w hy22) hT (.same rfl (.same rfl .nil)) .nil (fun R H' hR => ?_))
         obtain ⟨rfl, rfl⟩ := hR
         refine oV (v_assign rfl) ?_
         refine rnf ?_
         refine w_ret ?_
         refine ret_block ?_
         refine ret_nxt ?_
         refine ret_post (.tmp rfl .nil) (.cons .here .nil) ?_
         obtain rfl := Option.some.inj h
         exact ⟨rfl, rfl⟩
        ·
         refine w_seq ?_
         refine wsr ?_
         refine oV (v_eql rfl rfl) ?_
         refine oV (v_assign rfl) ?_
         refine rnf ?_
         refine w_J (ι := Bool) (γ := Unit) (fun q23 g23 => [(81, isv (q23))]) (fun q23 g23 => []) .nil h (fun q23 g23 h => ?_) (fun J24 h hJ24 => ?_)
         ·
          refine w_condM h rfl (fun _ h => ?_) (fun _ h => ?_)
          ·
           refine wsr ?_
           refine oV (v_move rfl) ?_
           refine oV (v_loadI ty58 rfl) ?_
           refine oV (v_loadI ty58 rfl) ?_
           refine cal_inv h fun y25 hy25 h => ?_
           refine oT (t_call (h_extend_walker_fields hy25) hT (.same rfl (.same rfl (.same rfl .nil))) (.cons .here .nil) (fun R H' hR => ?_))
           obtain ⟨rfl, rfl⟩ := hR
           refine oV (v_assign rfl) ?_
           refine rnf ?_
           refine w_ret ?_
           refine ret_block ?_
           refine ret_nxt ?_
           refine ret_post (.tmp rfl .nil) (.cons .here .nil) ?_
           obtain rfl := Option.some.inj h
           exact ⟨rfl, rfl⟩
          ·
           refine w_skip ?_
           refine fin_block ?_
           refine fin_nxt ?_
           refine wsr ?_
           refine oV (v_assign rfl) ?_
           refine rnf ?_
           refine w_ret ?_
           refine ret_post (.tmp rfl .nil) (.cons .here .nil) ?_
           obtain rfl := Option.some.inj h
           exact ⟨rfl, rfl⟩
         ·
          refine w_condM h rfl (fun _ h => ?_) (fun _ h => ?_)
          ·
           refine w_skip ?_
           exact hJ24 _ () h _ (join_imp 0 rfl rfl (mod_cons (j := 81) rfl (fun _ _ h => h) mod_nil) (.cons .here .nil))
          ·
           refine wsr ?_
           refine oV (v_eql rfl rfl) ?_
           refine oV (v_assign rfl) ?_
           refine rnf ?_
           refine w_condM h rfl (fun _ h => ?_) (fun _ h => ?_)
           ·
            refine w_skip ?_
            exact hJ24 _ () h _ (join_imp 2 rfl rfl (mod_cons (j := 81) rfl (fun _ _ h => h) mod_nil) (.cons .here .nil))
           ·
            refine w_region ?_
            refine oV (v_eql rfl rfl) ?_
            refine oV (v_assign rfl) ?_
            refine rl_nil ?_
            exact hJ24 _ () h _ (join_imp 4 rfl rfl (mod_cons (j := 81) rfl (fun _ _ h => h) mod_nil) (.cons .here .nil))
     ·
      refine rl_condM (j := 59) h rfl (fun g20 h => ?_) (fun g20 h => ?_)
      ·
       refine op_pass rfl (dj := 59) rfl g20 ?_
       refine op_pass rfl (dj := 59) rfl g20 ?_
       refine op_pass rfl (dj := 59) rfl g20 ?_
       refine op_pass rfl (dj := 59) rfl g20 ?_
       refine op_pass rfl (dj := 59) rfl g20 ?_
       refine oV (v_pick_t rfl g20 rfl) ?_
       exact hJ19 _ () h _ (join_imp 6 rfl rfl (mod_cons (j := 65) rfl (fun _ _ h => h) mod_nil) (.cons .here .nil))
      ·
       refine op_take rfl rfl (dj := 59) rfl g20 (OpV.t (v_fi rfl GTyp.f6 fd58_6 rfl (z := y1.1.more)) ?_)
       refine op_take rfl rfl (dj := 59) rfl g20 (OpV.t (v_loadI ty4 rfl) ?_)
       refine op_take rfl rfl (dj := 59) rfl g20 (OpV.t (v_fi rfl GTyp.f6 fd58_6 rfl (z := y1.2.1.more)) ?_)
       refine op_take rfl rfl (dj := 59) rfl g20 (OpV.t (v_loadI ty4 rfl) ?_)
       refine op_take rfl rfl (dj := 59) rfl g20 (OpV.t (v_neA eq4 rfl rfl) ?_)
       refine oV (v_pick_f rfl g20 rfl) ?_
       exact hJ19 _ () h _ (join_imp 6 rfl rfl (mod_cons (j := 65) rfl (fun _ _ h => h) mod_nil) (.cons .here .nil))
    ·
     refine rl_condM (j := 52) h rfl (fun g17 h => ?_) (fun g17 h => ?_)
     ·
      refine op_pass rfl (dj := 52) rfl g17 ?_
      refine op_pass rfl (dj := 52) rfl g17 ?_
      refine op_pass rfl (dj := 52) rfl g17 ?_
      refine op_pass rfl (dj := 52) rfl g17 ?_
      refine op_pass rfl (dj := 52) rfl g17 ?_
      refine oV (v_pick_t rfl g17 rfl) ?_
      exact hJ16 _ () h _ (join_imp 6 rfl rfl (mod_cons (j := 58) rfl (fun _ _ h => h) mod_nil) (.cons .here .nil))
     ·
      refine op_take rfl rfl (dj := 52) rfl g17 (OpV.t (v_fi rfl GTyp.f2 fd58_2 rfl (z := y1.1.con)) ?_)
      refine op_take rfl rfl (dj := 52) rfl g17 (OpV.t (v_loadI ty54 rfl) ?_)
      refine op_take rfl rfl (dj := 52) rfl g17 (OpV.t (v_fi rfl GTyp.f2 fd58_2 rfl (z := y1.2.1.con)) ?_)
      refine op_take rfl rfl (dj := 52) rfl g17 (OpV.t (v_loadI ty54 rfl) ?_)
      refine op_take rfl rfl (dj := 52) rfl g17 (OpV.t (v_neA eq54 rfl rfl) ?_)
      refine oV (v_pick_f rfl g17 rfl) ?_
      exact hJ16 _ () h _ (join_imp 6 rfl rfl (mod_cons (j := 58) rfl (fun _ _ h => h) mod_nil) (.cons .here .nil))
   ·
    refine rl_condM (j := 44) h rfl (fun g13 h => ?_) (fun g13 h => ?_)
    ·
     refine op_pass rfl (dj := 44) rfl g13 ?_
     refine op_pass rfl (dj := 44) rfl g13 ?_
     refine op_pass rfl (dj := 44) rfl g13 ?_
     refine op_pass rfl (dj := 44) rfl g13 ?_
     refine op_pass rfl (dj := 44) rfl g13 ?_
     refine op_pass rfl (dj := 44) rfl g13 ?_
     refine oV (v_pick_t rfl g13 rfl) ?_
     exact hJ12 _ () h _ (join_imp 7 rfl rfl (mod_cons (j := 51) rfl (fun _ _ h => h) mod_nil) (.cons .here .nil))
    ·
     refine op_take rfl rfl (dj := 44) rfl g13 (OpV.t (v_fi rfl GTyp.f1 fd58_1 rfl (z := y1.1.tags)) ?_)
     refine op_take rfl rfl (dj := 44) rfl g13 (OpV.t (v_loadI ty52 rfl) ?_)
     refine op_take rfl rfl (dj := 44) rfl g13 (OpV.t (v_fi rfl GTyp.f1 fd58_1 rfl (z := y1.2.1.tags)) ?_)
     refine op_take rfl rfl (dj := 44) rfl g13 (OpV.t (v_loadI ty52 rfl) ?_)
     refine cal_inv h fun y14 hy14 h => ?_
     refine op_take rfl rfl (dj := 44) rfl g13 (t_call (slices_Equal_Lapi_Tag_api_Tag_w hy14) hT (.same rfl (.same rfl .nil)) .nil (fun R H' hR => ?_))
     obtain ⟨rfl, rfl⟩ := hR
     refine op_take rfl rfl (dj := 44) rfl g13 (OpV.t (v_not rfl) ?_)
     refine oV (v_pick_f rfl g13 rfl) ?_
     exact hJ12 _ () h _ (join_imp 7 rfl rfl (mod_cons (j := 51) rfl (fun _ _ h => h) mod_nil) (.cons .here .nil))
  ·
   refine rl_condM (j := 37) h rfl (fun g10 h => ?_) (fun g10 h => ?_)
   ·
    refine op_pass rfl (dj := 37) rfl g10 ?_
    refine op_pass rfl (dj := 37) rfl g10 ?_
    refine op_pass rfl (dj := 37) rfl g10 ?_
    refine op_pass rfl (dj := 37) rfl g10 ?_
    refine op_pass rfl (dj := 37) rfl g10 ?_
    refine oV (v_pick_t rfl g10 rfl) ?_
    exact hJ9 _ () h _ (join_imp 6 rfl rfl (mod_cons (j := 43) rfl (fun _ _ h => h) mod_nil) (.cons .here .nil))
   ·
    refine op_take rfl rfl (dj := 37) rfl g10 (OpV.t (v_fi rfl GTyp.f0 fd58_0 rfl (z := y1.1.kind)) ?_)
    refine op_take rfl rfl (dj := 37) rfl g10 (OpV.t (v_loadI ty3 rfl) ?_)
    refine op_take rfl rfl (dj := 37) rfl g10 (OpV.t (v_fi rfl GTyp.f0 fd58_0 rfl (z := y1.2.1.kind)) ?_)
    refine op_take rfl rfl (dj := 37) rfl g10 (OpV.t (v_loadI ty3 rfl) ?_)
    refine op_take rfl rfl (dj := 37) rfl g10 (OpV.t (v_neq rfl rfl) ?_)
    refine oV (v_pick_f rfl g10 rfl) ?_
    exact hJ9 _ () h _ (join_imp 6 rfl rfl (mod_cons (j := 43) rfl (fun _ _ h => h) mod_nil) (.cons .here .nil))
 ·
  refine rl_condM (j := 30) h rfl (fun g7 h => ?_) (fun g7 h => ?_)
  ·
   refine op_pass rfl (dj := 30) rfl g7 ?_
   refine op_pass rfl (dj := 30) rfl g7 ?_
   refine op_pass rfl (dj := 30) rfl g7 ?_
   refine op_pass rfl (dj := 30) rfl g7 ?_
   refine op_pass rfl (dj := 30) rfl g7 ?_
   refine oV (v_pick_t rfl g7 rfl) ?_
   exact hJ6 _ () h _ (join_imp 6 rfl rfl (mod_cons (j := 36) rfl (fun _ _ h => h) mod_nil) (.cons .here .nil))
  ·
   refine op_take rfl rfl (dj := 30) rfl g7 (OpV.t (v_move rfl) ?_)
   refine op_take rfl rfl (dj := 30) rfl g7 (OpV.t (v_nilCheck rfl) ?_)
   refine op_take rfl rfl (dj := 30) rfl g7 (OpV.t (v_fa rfl GXwk.f1 fd84_1) ?_)
   refine op_take rfl rfl (dj := 30) rfl g7 (t_loadC (R := isv ((a_w_.left - (1 : Int)))) ty3 rfl .here (fun _ _ h => h) ?_)
   refine op_take rfl rfl (dj := 30) rfl g7 (OpV.t (v_lss rfl rfl) ?_)
   refine oV (v_pick_f rfl g7 rfl) ?_
   exact hJ6 _ () h _ (join_imp 6 rfl rfl (mod_cons (j := 36) rfl (fun _ _ h => h) mod_nil) (.cons .here .nil))

theorem extend_walker_fields_w0 {extend_walker_field' : GXwk → GFld → GFld → Option (Bool × GXwk)} {extend_walker_extends' : GXwk → Int → Int → Option (Bool × GXwk)} {extend_walker_fields' : GXwk → GTyp → GTyp → Option (Bool × GXwk)} (h_extend_walker_field : extend_walker_field_C extend_walker_field') (h_extend_walker_extends : extend_walker_extends_C extend_walker_extends') (h_extend_walker_fields : extend_walker_fields_C extend_walker_fields') : ∀ {a_w_ : GXwk} {a_x : GTyp} {a_y : GTyp} {b_a_w_ : Nat} {r : Bool × GXwk}, extend_walker_fields_F extend_walker_field' extend_walker_extends' extend_walker_fields' a_w_ a_x a_y = some r → Ctr Tryd.prog 63 [ptrv b_a_w_ (Fld.id GXwk), isv (a_x), isv (a_y)] [boxE b_a_w_ (a_w_ : GXwk)] (fun R H => R = oneOf [isv (r.1)] ∧ H = [boxE b_a_w_ (r.2)]) := by
 intro a_w_ a_x a_y b_a_w_ r h
 unfold extend_walker_fields_F at h
 refine spec_intro Tryd.func63 rfl (by decide +kernel) (by rfl) fun w0 S0 hT => ?_
 refine wsr ?_
 refine oT (t_boxIC (y := a_x) rfl (fun _ _ h => h) ?_)
 refine oT (t_boxIC (y := a_y) rfl (fun _ _ h => h) ?_)
 refine oV (v_assign rfl) ?_
 refine rnf ?_
 refine wsr ?_
 refine oV (v_fi rfl GTyp.f4 fd58_4 rfl (z := a_x.fields)) ?_
 refine oV (v_loadI ty56 rfl) ?_
 refine oV (v_ln (l := a_x.fields) rfl (fun _ _ h => h) sl56) ?_
 refine oV (v_assign rfl) ?_
 refine rnf ?_
 refine w_seq ?_
 refine wsr ?_
 refine oV (v_fi rfl GTyp.f5 fd58_5 rfl (z := a_x.root)) ?_
 refine oV (v_loadI ty3 rfl) ?_
 refine oV (v_fi rfl GTyp.f5 fd58_5 rfl (z := a_y.root)) ?_
 refine oV (v_loadI ty3 rfl) ?_
 refine oV (v_neq rfl rfl) ?_
 refine oV (v_move rfl) ?_
 refine rl_j (ι := Bool) (γ := Unit) (fun q1 g1 => [(25, isv (q1))]) (fun q1 g1 => []) .nil h 6 rfl (fun q1 g1 h => ?_) (fun J2 h hJ2 => ?_)
 ·
  refine oV (v_move rfl) ?_
  refine rl_j (ι := Bool) (γ := Unit) (fun q4 g4 => [(37, isv (q4))]) (fun q4 g4 => []) .nil h 11 rfl (fun q4 g4 h => ?_) (fun J5 h hJ5 => ?_)
  ·
   refine rnf ?_
   refine w_condM h rfl (fun _ h => ?_) (fun _ h => ?_)
   ·
    refine wsr ?_
    refine oV (v_assign rfl) ?_
    refine rnf ?_
    refine w_ret ?_
    refine ret_nxt ?_
    refine ret_post (.tmp rfl .nil) (.cons .here .nil) ?_
    obtain rfl := Option.some.inj h
    exact ⟨rfl, rfl⟩
   ·
    refine wkf ?_
    refine w_seq ?_
    refine wsr ?_
    refine oV (v_fi rfl GTyp.f4 fd58_4 rfl (z := a_x.fields)) ?_
    refine oV (v_loadI ty56 rfl) ?_
    refine oV (v_ln (l := a_x.fields) rfl (fun _ _ h => h) sl56) ?_
    refine oV (v_move rfl) ?_
    refine rnf ?_
    refine w_block ?_
    refine w_lp (ι := Int × GXwk) (γ := Unit) (fun q10 g10 => [(41, isv (q10.1))]) (fun q10 g10 => [boxE b_a_w_ (q10.2 : GXwk)]) h () (mod_cons (j := 41) rfl (fun _ _ h => h) mod_nil) (.cons .here .nil) (fun L11 q10 g10 Q40 h hL11 eL11 rL11 => ?_)
    refine wsr ?_
    refine oV (v_lss rfl rfl) ?_
    refine rnf ?_
    refine w_seq ?_
    refine w_condM h rfl (fun _ h => ?_) (fun _ h => ?_)
    ·
     refine wkf ?_
     refine w_seq ?_
     refine w_block ?_
     refine wsr ?_
     refine oV (v_move rfl) ?_
     refine cal_inv h fun y26 hy26 h => ?_
     refine oV (v_ix (l := a_x.fields) rfl (fun _ _ h => h) rfl sl56 hy26) ?_
     refine oV (v_loadI ty69 rfl) ?_
     refine oT (t_alloc _ ze69 fun b27 => ?_)
     refine oV (v_assign rfl) ?_
     refine oT (t_storeC (y' := (y26 : GFld)) ty69 rfl rfl (fun _ _ h => h) .here rfl ?_)
     refine rl_upd (upd_imm 9 .here rfl) ?_
     refine rnf ?_
     refine w_seq ?_
     refine w_regionD (.v 0 (.v 1 (.v 2 (.v 3 (.v 4 (.v 5 (.v 6 (.t 7 (.v 8 .nil))))))))) moOrd (by kernel_rfl) ?_
     refine rd_v rfl (v_move rfl) ?_
     refine rd_v rfl (v_loadI ty69 rfl) ?_
     refine rd_v rfl (v_fi rfl GTyp.f4 fd58_4 rfl (z := a_y.fields)) ?_
     refine rd_v rfl (v_loadI ty56 rfl) ?_
     refine rd_v rfl (v_move rfl) ?_
     refine cal_inv h fun y28 hy28 h => ?_
     refine rd_v rfl (v_ix (l := a_y.fields) rfl (fun _ _ h => h) rfl sl56 hy28) ?_
     refine rd_v rfl (v_loadI ty69 rfl) ?_
     refine cal_inv h fun y29 hy29 h => ?_
     refine rd_t rfl rfl (t_call (h_extend_walker_field hy29) hT (.same rfl (.same rfl (.same rfl .nil))) (.cons .here .nil) (fun R H' hR => ?_))
     obtain ⟨rfl, rfl⟩ := hR
     refine rd_v rfl (v_not rfl) ?_
     refine rd_nil ?_
     refine fin_nxt ?_
     refine w_condM h rfl (fun _ h => ?_) (fun _ h => ?_)
     ·
      refine wsr ?_
      refine oV (v_assign rfl) ?_
      refine rnf ?_
      refine w_ret ?_
      refine ret_block ?_
      refine ret_nxt ?_
      refine rL11 _ ?_
      refine ret_block ?_
      refine ret_nxt ?_
      refine ret_post (.tmp rfl .nil) (.cons .here .nil) ?_
      obtain rfl := Option.some.inj h
      exact ⟨rfl, rfl⟩
     ·
      refine w_skip ?_
      refine fin_block ?_
      refine fin_nxt ?_
      refine w_region ?_
      refine ck_inv h fun q30 h => ?_
      refine oV (v_add rfl rfl q30) ?_
      refine oV (v_move rfl) ?_
      refine rl_nil ?_
      exact hL11 _ () h _ (join_imp 19 rfl rfl (mod_cons (j := 41) rfl (fun _ _ h => h) mod_nil) (.cons .here .nil))
    ·
     refine w_exit ?_
     refine exi_nxt ?_
     refine eL11 _ _ ?_
     refine exi_block ?_
     refine fin_nxt ?_
     refine w_seq ?_
     refine wsr ?_
     refine oV (v_move rfl) ?_
     refine oV (v_eql rfl rfl) ?_
     refine oV (v_move rfl) ?_
     refine rl_j (ι := Bool) (γ := Unit) (fun q31 g31 => [(64, isv (q31))]) (fun q31 g31 => []) .nil h 6 rfl (fun q31 g31 h => ?_) (fun J32 h hJ32 => ?_)
     ·
      refine rnf ?_
      refine w_condM h rfl (fun _ h => ?_) (fun _ h => ?_)
      ·
       refine wsr ?_
       refine oV (v_assign rfl) ?_
       refine rnf ?_
       refine w_ret ?_
       refine ret_nxt ?_
       refine ret_post (.tmp rfl .nil) (.cons .here .nil) ?_
       obtain rfl := Option.some.inj h
       exact ⟨rfl, rfl⟩
      ·
       refine wkf ?_
       refine wsr ?_
       refine oV (v_fi rfl GTyp.f4 fd58_4 rfl (z := a_y.fields)) ?_
       refine oV (v_loadI ty56 rfl) ?_
       refine oV (v_move rfl) ?_
       refine cal_inv h fun y34 hy34 h => ?_
       refine oV (v_ix (l := a_y.fields) rfl (fun _ _ h => h) rfl sl56 hy34) ?_
       refine oV (v_fi rfl GFld.f5 fd69_5 rfl (z := y34.group)) ?_
       refine oV (v_loadI ty3 rfl) ?_
       refine oV (v_assign rfl) ?_
       refine rnf ?_
       refine wsr ?_
       refine oV (v_move rfl) ?_
       refine oV (v_eql rfl rfl) ?_
       refine oV (v_move rfl) ?_
       refine rl_j (ι := Bool) (γ := Unit) (fun q35 g35 => [(83, isv (q35))]) (fun q35 g35 => []) .nil h 10 rfl (fun q35 g35 h => ?_) (fun J36 h hJ36 => ?_)
       ·
        refine oV (v_assign rfl) ?_
        refine rnf ?_
        refine w_ret ?_
        refine ret_post (.tmp rfl .nil) (.cons .here .nil) ?_
        obtain rfl := Option.some.inj h
        exact ⟨rfl, rfl⟩
       ·
        refine rl_condM (j := 73) h rfl (fun g37 h => ?_) (fun g37 h => ?_)
        ·
         refine op_pass rfl (dj := 73) rfl g37 ?_
         refine op_pass rfl (dj := 73) rfl g37 ?_
         refine op_pass rfl (dj := 73) rfl g37 ?_
         refine op_pass rfl (dj := 73) rfl g37 ?_
         refine op_pass rfl (dj := 73) rfl g37 ?_
         refine op_pass rfl (dj := 73) rfl g37 ?_
         refine op_pass rfl (dj := 73) rfl g37 ?_
         refine op_pass rfl (dj := 73) rfl g37 ?_
         refine op_pass rfl (dj := 73) rfl g37 ?_
         refine oV (v_pick_t rfl g37 rfl) ?_
         exact hJ36 _ () h _ (join_imp 10 rfl rfl (mod_cons (j := 83) rfl (fun _ _ h => h) mod_nil) (.cons .here .nil))
        ·
         refine op_take rfl rfl (dj := 73) rfl g37 (OpV.t (v_move rfl) ?_)
         refine op_take rfl rfl (dj := 73) rfl g37 (OpV.t (v_fi rfl GTyp.f4 fd58_4 rfl (z := a_x.fields)) ?_)
         refine op_take rfl rfl (dj := 73) rfl g37 (OpV.t (v_loadI ty56 rfl) ?_)
         refine op_take rfl rfl (dj := 73) rfl g37 (OpV.t (v_move rfl) ?_)
         refine ck_inv h fun q38 h => ?_
         refine op_take rfl rfl (dj := 73) rfl g37 (OpV.t (v_sub rfl rfl q38) ?_)
         refine cal_inv h fun y39 hy39 h => ?_
         refine op_take rfl rfl (dj := 73) rfl g37 (OpV.t (v_ix (l := a_x.fields) rfl (fun _ _ h => h) rfl sl56 hy39) ?_)
         refine op_take rfl rfl (dj := 73) rfl g37 (OpV.t (v_fi rfl GFld.f5 fd69_5 rfl (z := y39.group)) ?_)
         refine op_take rfl rfl (dj := 73) rfl g37 (OpV.t (v_loadI ty3 rfl) ?_)
         refine op_take rfl rfl (dj := 73) rfl g37 (OpV.t (v_neq rfl rfl) ?_)
         refine oV (v_pick_f rfl g37 rfl) ?_
         exact hJ36 _ () h _ (join_imp 10 rfl rfl (mod_cons (j := 83) rfl (fun _ _ h => h) mod_nil) (.cons .here .nil))
     ·
      refine rl_condM (j := 58) h rfl (fun g33 h => ?_) (fun g33 h => ?_)
      ·
       refine op_pass rfl (dj := 58) rfl g33 ?_
       refine op_pass rfl (dj := 58) rfl g33 ?_
       refine op_pass rfl (dj := 58) rfl g33 ?_
       refine op_pass rfl (dj := 58) rfl g33 ?_
       refine op_pass rfl (dj := 58) rfl g33 ?_
       refine oV (v_pick_t rfl g33 rfl) ?_
       exact hJ32 _ () h _ (join_imp 6 rfl rfl (mod_cons (j := 64) rfl (fun _ _ h => h) mod_nil) (.cons .here .nil))
      ·
       refine op_take rfl rfl (dj := 58) rfl g33 (OpV.t (v_fi rfl GTyp.f4 fd58_4 rfl (z := a_y.fields)) ?_)
       refine op_take rfl rfl (dj := 58) rfl g33 (OpV.t (v_loadI ty56 rfl) ?_)
       refine op_take rfl rfl (dj := 58) rfl g33 (OpV.t (v_ln (l := a_y.fields) rfl (fun _ _ h => h) sl56) ?_)
       refine op_take rfl rfl (dj := 58) rfl g33 (OpV.t (v_move rfl) ?_)
       refine op_take rfl rfl (dj := 58) rfl g33 (OpV.t (v_eql rfl rfl) ?_)
       refine oV (v_pick_f rfl g33 rfl) ?_
       exact hJ32 _ () h _ (join_imp 6 rfl rfl (mod_cons (j := 64) rfl (fun _ _ h => h) mod_nil) (.cons .here .nil))
  ·
   refine rl_condM (j := 26) h rfl (fun g6 h => ?_) (fun g6 h => ?_)
   ·
    refine op_pass rfl (dj := 26) rfl g6 ?_
    refine op_pass rfl (dj := 26) rfl g6 ?_
    refine op_pass rfl (dj := 26) rfl g6 ?_
    refine op_pass rfl (dj := 26) rfl g6 ?_
    refine op_passU rfl (dj := 30) rfl ?_
    refine op_passU rfl (dj := 30) rfl ?_
    refine op_passU rfl (dj := 30) rfl ?_
    refine op_passU rfl (dj := 30) rfl ?_
    refine op_passU rfl (dj := 30) rfl ?_
    refine op_pass rfl (dj := 26) rfl g6 ?_
    refine oV (v_pick_t rfl g6 rfl) ?_
    exact hJ5 _ () h _ (join_imp 11 rfl rfl (mod_cons (j := 37) rfl (fun _ _ h => h) mod_nil) (.cons .here .nil))
   ·
    refine op_take rfl rfl (dj := 26) rfl g6 (OpV.t (v_fi rfl GTyp.f6 fd58_6 rfl (z := a_x.more)) ?_)
    refine op_take rfl rfl (dj := 26) rfl g6 (OpV.t (v_loadI ty4 rfl) ?_)
    refine op_take rfl rfl (dj := 26) rfl g6 (OpV.t (v_not rfl) ?_)
    refine op_take rfl rfl (dj := 26) rfl g6 (OpV.t (v_move rfl) ?_)
    refine rl_j (ι := Bool) (γ := Unit) (fun q7 g7 => [(36, isv (q7))]) (fun q7 g7 => []) .nil h 6 rfl (fun q7 g7 h => ?_) (fun J8 h hJ8 => ?_)
    ·
     refine oV (v_pick_f rfl g6 rfl) ?_
     exact hJ5 _ () h _ (join_imp 6 rfl rfl (mod_cons (j := 37) rfl (fun _ _ h => h) mod_nil) (.cons .here .nil))
    ·
     refine rl_condM (j := 30) h rfl (fun g9 h => ?_) (fun g9 h => ?_)
     ·
      refine op_take rfl rfl (dj := 30) rfl g9 (OpV.t (v_fi rfl GTyp.f4 fd58_4 rfl (z := a_y.fields)) ?_)
      refine op_take rfl rfl (dj := 30) rfl g9 (OpV.t (v_loadI ty56 rfl) ?_)
      refine op_take rfl rfl (dj := 30) rfl g9 (OpV.t (v_ln (l := a_y.fields) rfl (fun _ _ h => h) sl56) ?_)
      refine op_take rfl rfl (dj := 30) rfl g9 (OpV.t (v_move rfl) ?_)
      refine op_take rfl rfl (dj := 30) rfl g9 (OpV.t (v_gtr rfl rfl) ?_)
      refine op_take rfl rfl (dj := 26) rfl g6 (OpV.t (v_pick_t rfl g9 rfl) ?_)
      exact hJ8 _ () h _ (join_imp 6 rfl rfl (mod_cons (j := 36) rfl (fun _ _ h => h) mod_nil) (.cons .here .nil))
     ·
      refine op_pass rfl (dj := 30) rfl g9 ?_
      refine op_pass rfl (dj := 30) rfl g9 ?_
      refine op_pass rfl (dj := 30) rfl g9 ?_
      refine op_pass rfl (dj := 30) rfl g9 ?_
      refine op_pass rfl (dj := 30) rfl g9 ?_
      refine op_take rfl rfl (dj := 26) rfl g6 (OpV.t (v_pick_f rfl g9 rfl) ?_)
      exact hJ8 _ () h _ (join_imp 6 rfl rfl (mod_cons (j := 36) rfl (fun _ _ h => h) mod_nil) (.cons .here .nil))
 ·
  refine rl_condM (j := 19) h rfl (fun g3 h => ?_) (fun g3 h => ?_)
  ·
   refine op_pass rfl (dj := 19) rfl g3 ?_
   refine op_pass rfl (dj := 19) rfl g3 ?_
   refine op_pass rfl (dj := 19) rfl g3 ?_
   refine op_pass rfl (dj := 19) rfl g3 ?_
   refine op_pass rfl (dj := 19) rfl g3 ?_
   refine oV (v_pick_t rfl g3 rfl) ?_
   exact hJ2 _ () h _ (join_imp 6 rfl rfl (mod_cons (j := 25) rfl (fun _ _ h => h) mod_nil) (.cons .here .nil))
  ·
   refine op_take rfl rfl (dj := 19) rfl g3 (OpV.t (v_fi rfl GTyp.f4 fd58_4 rfl (z := a_y.fields)) ?_)
   refine op_take rfl rfl (dj := 19) rfl g3 (OpV.t (v_loadI ty56 rfl) ?_)
   refine op_take rfl rfl (dj := 19) rfl g3 (OpV.t (v_ln (l := a_y.fields) rfl (fun _ _ h => h) sl56) ?_)
   refine op_take rfl rfl (dj := 19) rfl g3 (OpV.t (v_move rfl) ?_)
   refine op_take rfl rfl (dj := 19) rfl g3 (OpV.t (v_lss rfl rfl) ?_)
   refine oV (v_pick_f rfl g3 rfl) ?_
   exact hJ2 _ () h _ (join_imp 6 rfl rfl (mod_cons (j := 25) rfl (fun _ _ h => h) mod_nil) (.cons .here .nil))

theorem extend_walker_field_grp_w : ∀ n, extend_walker_field_C (extend_walker_field n) ∧ extend_walker_extends_C (extend_walker_extends n) ∧ extend_walker_fields_C (extend_walker_fields n)
 | 0 => ⟨fun h => (by cases h), fun h => (by cases h), fun h => (by cases h)⟩
 | n + 1 => by
  obtain ⟨h0, h1, h2⟩ := extend_walker_field_grp_w n
  exact ⟨extend_walker_field_w0 h0 h1 h2, extend_walker_extends_w0 h0 h1 h2, extend_walker_fields_w0 h0 h1 h2⟩
theorem extend_walker_field_w (n : Nat) : extend_walker_field_C (extend_walker_field n) := (extend_walker_field_grp_w n).1
theorem extend_walker_extends_w (n : Nat) : extend_walker_extends_C (extend_walker_extends n) := (extend_walker_field_grp_w n).2.1
theorem extend_walker_fields_w (n : Nat) : extend_walker_fields_C (extend_walker_fields n) := (extend_walker_field_grp_w n).2.2

theorem extend_Type_w : ∀ {a_a : GTab} {a_i : Int} {a_b : GTab} {a_k : Int} {r : Bool}, extend_Type a_a a_i a_b a_k = some r → Ctr Tryd.prog 16 [isv (a_a), isv (a_i), isv (a_b), isv (a_k)] [] (fun R H => R = oneOf [isv (r)] ∧ H = []) := by
 intro a_a a_i a_b a_k r h
 unfold extend_Type at h
 refine spec_intro Tryd.func16 rfl (by decide +kernel) (by rfl) fun w0 S0 hT => ?_
 refine wsr ?_
 refine oT (t_boxIC (y := a_a) rfl (fun _ _ h => h) ?_)
 refine oT (t_boxIC (y := a_b) rfl (fun _ _ h => h) ?_)
 refine oV (v_assign rfl) ?_
 refine rnf ?_
 refine wsr ?_
 refine oV (v_loadI ty26 rfl) ?_
 refine oV (v_loadI ty26 rfl) ?_
 refine oV (v_build (z := (GXsd.mk a_a a_b)) rfl bu82 ze82 (.cons GXsd.f0 fd82_0 rfl (fun _ _ h => h) (.cons GXsd.f1 fd82_1 rfl (fun _ _ h => h) .nil))) ?_
 refine oV (v_build (z := (GXwk.mk (GXsd.mk a_a a_b) (300 : Int))) rfl bu84 ze84 (.cons GXwk.f0 fd84_0 rfl (fun _ _ h => h) (.cons GXwk.f1 fd84_1 rfl (fun _ _ h => h) .nil))) ?_
 refine oT (t_boxC (y := (GXwk.mk (GXsd.mk a_a a_b) (300 : Int))) rfl (fun _ _ h => h) fun b1 => ?_)
 refine oV (v_assign rfl) ?_
 refine rnf ?_
 refine wsr ?_
 refine oV (v_move rfl) ?_
 refine oV (v_move rfl) ?_
 refine oV (v_move rfl) ?_
 refine cal_inv h fun y2 hy2 h => ?_
 refine oT (t_call (extend_walker_extends_w fuel hy2) hT (.same rfl (.same rfl (.same rfl .nil))) (.cons .here .nil) (fun R H' hR => ?_))
 obtain ⟨rfl, rfl⟩ := hR
 refine oV (v_assign rfl) ?_
 refine rnf ?_
 refine w_ret ?_
 refine ret_post (.tmp rfl .nil) .nil ?_
 obtain rfl := Option.some.inj h
 exact ⟨rfl, rfl⟩

end Go.Proofs.YtajbipkppngccaaDoor


namespace Go.Proofs.YtajbipkppngccaaDoor
open Go.Sy
set_option maxRecDepth 4000
theorem extend_May_w : ∀ {a_a : GTab} {a_b : GTab} {r : Int × Int}, extend_May a_a a_b = some r → Ctr Tryd.prog 14 [isv (a_a), isv (a_b)] [] (fun R H => R = oneOf [isv (r.1), isv (r.2)] ∧ H = []) := by
 intro a_a a_b r h
 unfold extend_May at h
 refine spec_intro Tryd.func14 rfl (by decide +kernel) (by rfl) fun w0 S0 hT => ?_
 refine wsr ?_
 refine oT (t_boxIC (y := a_a) rfl (fun _ _ h => h) ?_)
 refine oT (t_boxIC (y := a_b) rfl (fun _ _ h => h) ?_)
 refine oV (v_assign rfl) ?_
 refine oV (v_assign rfl) ?_
 refine rnf ?_
 refine w_seq ?_
 refine wsr ?_
 refine oV (v_fi rfl GTab.f0 fd26_0 rfl (z := a_a.name)) ?_
 refine oV (v_loadI ty9 rfl) ?_
 refine oV (v_fi rfl GTab.f0 fd26_0 rfl (z := a_b.name)) ?_
 refine oV (v_loadI ty9 rfl) ?_
 refine oV (v_neA eq9 rfl rfl) ?_
 refine rnf ?_
 refine w_condM h rfl (fun _ h => ?_) (fun _ h => ?_)
 ·
  refine wsr ?_
  refine oV (v_assign rfl) ?_
  refine oV (v_assign rfl) ?_
  refine rnf ?_
  refine w_ret ?_
  refine ret_nxt ?_
  refine ret_post (.tmp rfl (.tmp rfl .nil)) .nil ?_
  obtain rfl := Option.some.inj h
  exact ⟨rfl, rfl⟩
 ·
  refine wkf ?_
  refine w_seq ?_
  refine wsr ?_
  refine oV (v_fi rfl GTab.f1 fd26_1 rfl (z := a_a.names)) ?_
  refine oV (v_loadI ty22 rfl) ?_
  refine oV (v_ln (l := a_a.names) rfl (fun _ _ h => h) sl22) ?_
  refine oV (v_move rfl) ?_
  refine rnf ?_
  refine w_block ?_
  refine w_lp (ι := Int) (γ := Unit) (fun q1 g1 => [(16, isv (q1))]) (fun q1 g1 => []) h () (mod_cons (j := 16) rfl (fun _ _ h => h) mod_nil) .nil (fun L2 q1 g1 Q19 h hL2 eL2 rL2 => ?_)
  refine wsr ?_
  refine oV (v_lss rfl rfl) ?_
  refine rnf ?_
  refine w_seq ?_
  refine w_condM h rfl (fun _ h => ?_) (fun _ h => ?_)
  ·
   refine wkf ?_
   refine w_seq ?_
   refine w_block ?_
   refine wsr ?_
   refine oV (v_move rfl) ?_
   refine cal_inv h fun y11 hy11 h => ?_
   refine oV (v_ix (l := a_a.names) rfl (fun _ _ h => h) rfl sl22 hy11) ?_
   refine oV (v_loadI ty9 rfl) ?_
   refine oV (v_assign rfl) ?_
   refine oV (v_assign rfl) ?_
   refine rnf ?_
   refine w_seq ?_
   refine w_regionD (.v 0 (.v 1 (.v 2 (.v 3 (.v 4 (.v 5 (.v 6 (.v 7 (.v 8 (.v 9 (.v 10 (.v 11 (.v 12 (.v 13 (.v 14 (.t 15 (.t 16 (.v 17 (.v 18 .nil))))))))))))))))))) moOrd (by kernel_rfl) ?_
   refine rd_v rfl (v_move rfl) ?_
   refine rd_v rfl (v_fi rfl GTab.f2 fd26_2 rfl (z := a_a.roots)) ?_
   refine rd_v rfl (v_loadI ty23 rfl) ?_
   refine rd_v rfl (v_ln (l := a_a.roots) rfl (fun _ _ h => h) sl23) ?_
   refine rd_v rfl (v_geq rfl rfl) ?_
   refine rd_v rfl (v_move rfl) ?_
   refine rd_j (ι := Bool) (γ := Unit) (fun q12 g12 => [(39, isv (q12))]) (fun q12 g12 => []) .nil h 13 rfl (fun q12 g12 h => ?_) (fun J13 h hJ13 => ?_)
   ·
    refine rd_nil ?_
    refine fin_nxt ?_
    refine w_condM h rfl (fun _ h => ?_) (fun _ h => ?_)
    ·
     refine wsr ?_
     refine oV (v_move rfl) ?_
     refine oV (v_assign rfl) ?_
     refine oV (v_assign rfl) ?_
     refine rnf ?_
     refine w_ret ?_
     refine ret_block ?_
     refine ret_nxt ?_
     refine rL2 _ ?_
     refine ret_block ?_
     refine ret_nxt ?_
     refine ret_post (.tmp rfl (.tmp rfl .nil)) .nil ?_
     obtain rfl := Option.some.inj h
     exact ⟨rfl, rfl⟩
    ·
     refine w_skip ?_
     refine fin_block ?_
     refine fin_nxt ?_
     refine w_region ?_
     refine ck_inv h fun q18 h => ?_
     refine oV (v_add rfl rfl q18) ?_
     refine oV (v_move rfl) ?_
     refine rl_nil ?_
     exact hL2 _ () h _ (join_imp 16 rfl rfl (mod_cons (j := 16) rfl (fun _ _ h => h) mod_nil) .nil)
   ·
    refine rd_condM (j := 26) h rfl (fun g14 h => ?_) (fun g14 h => ?_)
    ·
     refine rd_passV rfl rfl (dj := 26) rfl g14 ?_
     refine rd_passV rfl rfl (dj := 26) rfl g14 ?_
     refine rd_passV rfl rfl (dj := 26) rfl g14 ?_
     refine rd_passV rfl rfl (dj := 26) rfl g14 ?_
     refine rd_passV rfl rfl (dj := 26) rfl g14 ?_
     refine rd_passV rfl rfl (dj := 26) rfl g14 ?_
     refine rd_passV rfl rfl (dj := 26) rfl g14 ?_
     refine rd_passV rfl rfl (dj := 26) rfl g14 ?_
     refine rd_passV rfl rfl (dj := 26) rfl g14 ?_
     refine rd_passT rfl rfl (dj := 26) rfl g14 ?_
     refine rd_passT rfl rfl (dj := 26) rfl g14 ?_
     refine rd_passV rfl rfl (dj := 26) rfl g14 ?_
     refine rd_v rfl (v_pick_t rfl g14 rfl) ?_
     exact hJ13 _ () h _ (join_imp 13 rfl rfl (mod_cons (j := 39) rfl (fun _ _ h => h) mod_nil) .nil)
    ·
     refine rd_vt rfl rfl (dj := 26) rfl g14 (v_loadI ty26 rfl) ?_
     refine rd_vt rfl rfl (dj := 26) rfl g14 (v_fi rfl GTab.f2 fd26_2 rfl (z := a_a.roots)) ?_
     refine rd_vt rfl rfl (dj := 26) rfl g14 (v_loadI ty23 rfl) ?_
     refine rd_vt rfl rfl (dj := 26) rfl g14 (v_move rfl) ?_
     refine cal_inv h fun y15 hy15 h => ?_
     refine rd_vt rfl rfl (dj := 26) rfl g14 (v_ix (l := a_a.roots) rfl (fun _ _ h => h) rfl sl23 hy15) ?_
     refine rd_vt rfl rfl (dj := 26) rfl g14 (v_loadI ty3 rfl) ?_
     refine rd_vt rfl rfl (dj := 26) rfl g14 (v_loadI ty26 rfl) ?_
     refine rd_vt rfl rfl (dj := 26) rfl g14 (v_loadI ty26 rfl) ?_
     refine rd_vt rfl rfl (dj := 26) rfl g14 (v_move rfl) ?_
     refine cal_inv h fun y16 hy16 h => ?_
     refine rd_tt rfl rfl rfl (dj := 26) rfl g14 (t_call (table_Find_w hy16) hT (.same rfl (.same rfl .nil)) .nil (fun R H' hR => ?_))
     obtain ⟨rfl, rfl⟩ := hR
     refine cal_inv h fun y17 hy17 h => ?_
     refine rd_tt rfl rfl rfl (dj := 26) rfl g14 (t_call (extend_Type_w hy17) hT (.same rfl (.same rfl (.same rfl (.same rfl .nil)))) .nil (fun R H' hR => ?_))
     obtain ⟨rfl, rfl⟩ := hR
     refine rd_vt rfl rfl (dj := 26) rfl g14 (v_not rfl) ?_
     refine rd_v rfl (v_pick_f rfl g14 rfl) ?_
     exact hJ13 _ () h _ (join_imp 13 rfl rfl (mod_cons (j := 39) rfl (fun _ _ h => h) mod_nil) .nil)
  ·
   refine w_exit ?_
   refine exi_nxt ?_
   refine eL2 _ _ ?_
   refine exi_block ?_
   refine fin_nxt ?_
   refine wsr ?_
   refine oV (v_assign rfl) ?_
   refine oV (v_assign rfl) ?_
   refine rnf ?_
   refine w_ret ?_
   refine ret_post (.tmp rfl (.tmp rfl .nil)) .nil ?_
   obtain rfl := Option.some.inj h
   exact ⟨rfl, rfl⟩


theorem law21_awake_w : ∀  {r : Bool}, law21_awake  = some r → Ctr Tryd.prog 13 [] [] (fun R H => R = oneOf [isv (r)] ∧ H = []) := by
 intro  r h
 unfold law21_awake at h
 refine spec_intro Tryd.func13 rfl (by decide +kernel) (by rfl) fun w0 S0 hT => ?_
 refine wsr ?_
 refine oV (v_assign rfl) ?_
 refine rnf ?_
 refine wsr ?_
 refine cal_inv h fun y1 hy1 h => ?_
 refine oT (t_call (oghamplay_Table_w hy1) hT (.same rfl .nil) .nil (fun R H' hR => ?_))
 obtain ⟨rfl, rfl⟩ := hR
 refine oV (v_move rfl) ?_
 refine oV (v_extract rfl rfl) ?_
 refine oV (v_extract rfl rfl) ?_
 refine oT (t_alloc _ ze26 fun b2 => ?_)
 refine oT (t_storeC (y' := (y1.1 : GTab)) ty26 rfl rfl (fun _ _ h => h) .here rfl ?_)
 refine rl_upd (upd_imm 1 .here rfl) ?_
 refine oV (v_assign rfl) ?_
 refine rnf ?_
 refine wsr ?_
 refine cal_inv h fun y3 hy3 h => ?_
 refine oT (t_call (oghamplay_Table_w hy3) hT (.same rfl .nil) .nil (fun R H' hR => ?_))
 obtain ⟨rfl, rfl⟩ := hR
 refine oV (v_move rfl) ?_
 refine oV (v_extract rfl rfl) ?_
 refine oV (v_extract rfl rfl) ?_
 refine oT (t_alloc _ ze26 fun b4 => ?_)
 refine oT (t_storeC (y' := (y3.1 : GTab)) ty26 rfl rfl (fun _ _ h => h) .here rfl ?_)
 refine rl_upd (upd_imm 3 .here rfl) ?_
 refine oV (v_assign rfl) ?_
 refine rnf ?_
 refine wsr ?_
 refine oV (v_loadI ty26 rfl) ?_
 refine oV (v_loadI ty26 rfl) ?_
 refine cal_inv h fun y5 hy5 h => ?_
 refine oT (t_call (extend_May_w hy5) hT (.same rfl (.same rfl .nil)) .nil (fun R H' hR => ?_))
 obtain ⟨rfl, rfl⟩ := hR
 refine oV (v_move rfl) ?_
 refine oV (v_extract rfl rfl) ?_
 refine oV (v_extract rfl rfl) ?_
 refine oV (v_assign rfl) ?_
 refine oV (v_assign rfl) ?_
 refine rnf ?_
 refine wsr ?_
 refine oV (v_loadI ty26 rfl) ?_
 refine oV (v_loadI ty26 rfl) ?_
 refine cal_inv h fun y6 hy6 h => ?_
 refine oT (t_call (extend_May_w hy6) hT (.same rfl (.same rfl .nil)) .nil (fun R H' hR => ?_))
 obtain ⟨rfl, rfl⟩ := hR
 refine oV (v_move rfl) ?_
 refine oV (v_extract rfl rfl) ?_
 refine oV (v_extract rfl rfl) ?_
 refine oV (v_assign rfl) ?_
 refine oV (v_assign rfl) ?_
 refine rnf ?_
 refine wsr ?_
 refine oV (v_move rfl) ?_
 refine oV (v_move rfl) ?_
 refine rl_j (ι := Bool) (γ := Unit) (fun q7 g7 => [(32, isv (q7))]) (fun q7 g7 => []) .nil h 2 rfl (fun q7 g7 h => ?_) (fun J8 h hJ8 => ?_)
 ·
  refine oV (v_move rfl) ?_
  refine rl_j (ι := Bool) (γ := Unit) (fun q10 g10 => [(36, isv (q10))]) (fun q10 g10 => []) .nil h 3 rfl (fun q10 g10 h => ?_) (fun J11 h hJ11 => ?_)
  ·
   refine oV (v_move rfl) ?_
   refine rl_j (ι := Bool) (γ := Unit) (fun q13 g13 => [(40, isv (q13))]) (fun q13 g13 => []) .nil h 3 rfl (fun q13 g13 h => ?_) (fun J14 h hJ14 => ?_)
   ·
    refine oV (v_move rfl) ?_
    refine rl_j (ι := Bool) (γ := Unit) (fun q16 g16 => [(45, isv (q16))]) (fun q16 g16 => []) .nil h 4 rfl (fun q16 g16 h => ?_) (fun J17 h hJ17 => ?_)
    ·
     refine oV (v_assign rfl) ?_
     refine rnf ?_
     refine w_ret ?_
     refine ret_post (.tmp rfl .nil) .nil ?_
     obtain rfl := Option.some.inj h
     exact ⟨rfl, rfl⟩
    ·
     refine rl_condM (j := 41) h rfl (fun g18 h => ?_) (fun g18 h => ?_)
     ·
      refine op_take rfl rfl (dj := 41) rfl g18 (OpV.t (v_loadI ty26 rfl) ?_)
      refine op_take rfl rfl (dj := 41) rfl g18 (OpV.t (v_loadI ty26 rfl) ?_)
      refine cal_inv h fun y19 hy19 h => ?_
      refine op_take rfl rfl (dj := 41) rfl g18 (t_call (extend_Type_w hy19) hT (.same rfl (.same rfl (.same rfl (.same rfl .nil)))) .nil (fun R H' hR => ?_))
      obtain ⟨rfl, rfl⟩ := hR
      refine oV (v_pick_t rfl g18 rfl) ?_
      exact hJ17 _ () h _ (join_imp 4 rfl rfl (mod_cons (j := 45) rfl (fun _ _ h => h) mod_nil) .nil)
     ·
      refine op_pass rfl (dj := 41) rfl g18 ?_
      refine op_pass rfl (dj := 41) rfl g18 ?_
      refine op_pass rfl (dj := 41) rfl g18 ?_
      refine oV (v_pick_f rfl g18 rfl) ?_
      exact hJ17 _ () h _ (join_imp 4 rfl rfl (mod_cons (j := 45) rfl (fun _ _ h => h) mod_nil) .nil)
   ·
    refine rl_condM (j := 37) h rfl (fun g15 h => ?_) (fun g15 h => ?_)
    ·
     refine op_take rfl rfl (dj := 37) rfl g15 (OpV.t (v_move rfl) ?_)
     refine op_take rfl rfl (dj := 37) rfl g15 (OpV.t (v_eql rfl rfl) ?_)
     refine oV (v_pick_t rfl g15 rfl) ?_
     exact hJ14 _ () h _ (join_imp 3 rfl rfl (mod_cons (j := 40) rfl (fun _ _ h => h) mod_nil) .nil)
    ·
     refine op_pass rfl (dj := 37) rfl g15 ?_
     refine op_pass rfl (dj := 37) rfl g15 ?_
     refine oV (v_pick_f rfl g15 rfl) ?_
     exact hJ14 _ () h _ (join_imp 3 rfl rfl (mod_cons (j := 40) rfl (fun _ _ h => h) mod_nil) .nil)
  ·
   refine rl_condM (j := 33) h rfl (fun g12 h => ?_) (fun g12 h => ?_)
   ·
    refine op_take rfl rfl (dj := 33) rfl g12 (OpV.t (v_move rfl) ?_)
    refine op_take rfl rfl (dj := 33) rfl g12 (OpV.t (v_eql rfl rfl) ?_)
    refine oV (v_pick_t rfl g12 rfl) ?_
    exact hJ11 _ () h _ (join_imp 3 rfl rfl (mod_cons (j := 36) rfl (fun _ _ h => h) mod_nil) .nil)
   ·
    refine op_pass rfl (dj := 33) rfl g12 ?_
    refine op_pass rfl (dj := 33) rfl g12 ?_
    refine oV (v_pick_f rfl g12 rfl) ?_
    exact hJ11 _ () h _ (join_imp 3 rfl rfl (mod_cons (j := 36) rfl (fun _ _ h => h) mod_nil) .nil)
 ·
  refine rl_condM (j := 30) h rfl (fun g9 h => ?_) (fun g9 h => ?_)
  ·
   refine op_take rfl rfl (dj := 30) rfl g9 (OpV.t (v_move rfl) ?_)
   refine oV (v_pick_t rfl g9 rfl) ?_
   exact hJ8 _ () h _ (join_imp 2 rfl rfl (mod_cons (j := 32) rfl (fun _ _ h => h) mod_nil) .nil)
  ·
   refine op_pass rfl (dj := 30) rfl g9 ?_
   refine oV (v_pick_f rfl g9 rfl) ?_
   exact hJ8 _ () h _ (join_imp 2 rfl rfl (mod_cons (j := 32) rfl (fun _ _ h => h) mod_nil) .nil)


def h_Digits_C (f' : UInt64 → Option (Str)) : Prop :=
 ∀ {a_v : UInt64} {r : Str}, f' a_v = some r → Ctr Tryd.prog 21 [isv (a_v)] [] (fun R H => R = oneOf [isv (r)] ∧ H = [])
theorem h_Digits_w0 {h_Digits' : UInt64 → Option (Str)} (h_h_Digits : h_Digits_C h_Digits') : ∀ {a_v : UInt64} {r : Str}, h_Digits_F h_Digits' a_v = some r → Ctr Tryd.prog 21 [isv (a_v)] [] (fun R H => R = oneOf [isv (r)] ∧ H = []) := by
 intro a_v r h
 unfold h_Digits_F at h
 refine spec_intro Tryd.func21 rfl (by decide +kernel) (by rfl) fun w0 S0 hT => ?_
 refine wsr ?_
 refine oV (v_assign rfl) ?_
 refine rnf ?_
 refine w_seq ?_
 refine wsr ?_
 refine oV (v_move rfl) ?_
 refine oV (v_lss64 rfl rfl) ?_
 refine rnf ?_
 refine w_condM h rfl (fun _ h => ?_) (fun _ h => ?_)
 ·
  refine wsr ?_
  refine oV (v_move rfl) ?_
  refine oV (v_add64 rfl rfl) ?_
  refine oV (v_u64u8 Tryd.underlying39 Tryd.underlying5 rfl) ?_
  refine oT (t_buildSlice (l := ([((48 : UInt64) + a_v).toUInt8] : (List UInt8))) el63 (.cons rfl (fun _ _ h => h) .nil) rfl rfl ?_)
  refine oV (v_bs (l := ([((48 : UInt64) + a_v).toUInt8] : (List UInt8))) Tryd.underlying63 Tryd.underlying5 Tryd.underlying9 rfl appv_isv) ?_
  refine oV (v_assign rfl) ?_
  refine rnf ?_
  refine w_ret ?_
  refine ret_nxt ?_
  refine ret_post (.tmp rfl .nil) .nil ?_
  obtain rfl := Option.some.inj h
  exact ⟨rfl, rfl⟩
 ·
  refine wkf ?_
  refine w_seq ?_
  refine w_J (ι := Str) (γ := Unit) (fun q2 g2 => [(2, isv (q2))]) (fun q2 g2 => []) .nil h (fun q2 g2 h => ?_) (fun J3 h hJ3 => ?_)
  ·
   refine w_ret ?_
   refine ret_post (.tmp rfl .nil) .nil ?_
   obtain rfl := Option.some.inj h
   exact ⟨rfl, rfl⟩
  ·
   refine w_regionD (.v 0 (.v 1 (.v 3 (.v 4 (.v 5 (.v 6 (.alt 2 (.t 7 (.v 8 (.v 9 (.v 10 .nil)))) (.t 7 (.v 8 (.t 2 (.v 9 (.v 10 .nil)))))))))))) moOrd (by kernel_rfl) ?_
   refine rd_v rfl (v_move rfl) ?_
   refine asr_inv h fun q4 h => ?_
   refine rd_v rfl (v_quo64 rfl rfl q4) ?_
   refine rd_v rfl (v_move rfl) ?_
   refine asr_inv h fun q5 h => ?_
   refine rd_v rfl (v_rem64 rfl rfl q5) ?_
   refine rd_v rfl (v_add64 rfl rfl) ?_
   refine rd_v rfl (v_u64u8 Tryd.underlying39 Tryd.underlying5 rfl) ?_
   refine cal_inv h fun y6 hy6 h => ?_
   refine asr_inv h fun q8 h => ?_
   refine rd_two ?_ ?_
   ·
    refine rd_t rfl rfl (t_call (h_h_Digits hy6) hT (.same rfl .nil) .nil (fun R H' hR => ?_))
    obtain ⟨rfl, rfl⟩ := hR
    refine rd_t rfl rfl (t_buildSlice (l := ([((48 : UInt64) + (a_v % (10 : UInt64))).toUInt8] : (List UInt8))) el63 (.cons rfl (fun _ _ h => h) .nil) rfl rfl ?_)
    refine rd_v rfl (v_bs (l := ([((48 : UInt64) + (a_v % (10 : UInt64))).toUInt8] : (List UInt8))) Tryd.underlying63 Tryd.underlying5 Tryd.underlying9 rfl appv_isv) ?_
    refine rd_v rfl (v_cat rfl rfl q8) ?_
    refine rd_v rfl (v_assign rfl) ?_
    refine rd_nil ?_
    exact hJ3 _ () h _ (join_imp 11 rfl rfl (mod_cons (j := 2) rfl (fun _ _ h => h) mod_nil) .nil)
   ·
    refine rd_t rfl rfl (t_buildSlice (l := ([((48 : UInt64) + (a_v % (10 : UInt64))).toUInt8] : (List UInt8))) el63 (.cons rfl (fun _ _ h => h) .nil) rfl rfl ?_)
    refine rd_v rfl (v_bs (l := ([((48 : UInt64) + (a_v % (10 : UInt64))).toUInt8] : (List UInt8))) Tryd.underlying63 Tryd.underlying5 Tryd.underlying9 rfl appv_isv) ?_
    refine rd_t rfl rfl (t_call (h_h_Digits hy6) hT (.same rfl .nil) .nil (fun R H' hR => ?_))
    obtain ⟨rfl, rfl⟩ := hR
    refine rd_v rfl (v_cat rfl rfl q8) ?_
    refine rd_v rfl (v_assign rfl) ?_
    refine rd_nil ?_
    exact hJ3 _ () h _ (join_imp 11 rfl rfl (mod_cons (j := 2) rfl (fun _ _ h => h) mod_nil) .nil)

theorem h_Digits_grp_w : ∀ n, h_Digits_C (h_Digits n)
 | 0 => fun h => (by cases h)
 | n + 1 => h_Digits_w0 (h_Digits_grp_w n)
theorem h_Digits_w (n : Nat) : h_Digits_C (h_Digits n) := (h_Digits_grp_w n)

theorem law21_one_w : ∀ {a_a : Str} {a_b : Str} {r : Bool × Bool}, law21_one a_a a_b = some r → Ctr Tryd.prog 22 [isv (a_a), isv (a_b)] [] (fun R H => R = oneOf [isv (r.1), isv (r.2)] ∧ H = []) := by
 intro a_a a_b r h
 unfold law21_one at h
 refine spec_intro Tryd.func22 rfl (by decide +kernel) (by rfl) fun w0 S0 hT => ?_
 refine wsr ?_
 refine oV (v_assign rfl) ?_
 refine oV (v_assign rfl) ?_
 refine rnf ?_
 refine wsr ?_
 refine oV (v_move rfl) ?_
 refine asr_inv h fun q1 h => ?_
 refine oV (v_cat rfl rfl q1) ?_
 refine asr_inv h fun q2 h => ?_
 refine oV (v_cat rfl rfl q2) ?_
 refine cal_inv h fun y3 hy3 h => ?_
 refine oT (t_call (oghamplay_Table_w hy3) hT (.same rfl .nil) .nil (fun R H' hR => ?_))
 obtain ⟨rfl, rfl⟩ := hR
 refine oV (v_move rfl) ?_
 refine oV (v_extract rfl rfl) ?_
 refine oV (v_extract rfl rfl) ?_
 refine oT (t_alloc _ ze26 fun b4 => ?_)
 refine oT (t_storeC (y' := (y3.1 : GTab)) ty26 rfl rfl (fun _ _ h => h) .here rfl ?_)
 refine rl_upd (upd_imm 6 .here rfl) ?_
 refine oV (v_assign rfl) ?_
 refine rnf ?_
 refine wsr ?_
 refine oV (v_move rfl) ?_
 refine asr_inv h fun q5 h => ?_
 refine oV (v_cat rfl rfl q5) ?_
 refine asr_inv h fun q6 h => ?_
 refine oV (v_cat rfl rfl q6) ?_
 refine cal_inv h fun y7 hy7 h => ?_
 refine oT (t_call (oghamplay_Table_w hy7) hT (.same rfl .nil) .nil (fun R H' hR => ?_))
 obtain ⟨rfl, rfl⟩ := hR
 refine oV (v_move rfl) ?_
 refine oV (v_extract rfl rfl) ?_
 refine oV (v_extract rfl rfl) ?_
 refine oT (t_alloc _ ze26 fun b8 => ?_)
 refine oT (t_storeC (y' := (y7.1 : GTab)) ty26 rfl rfl (fun _ _ h => h) .here rfl ?_)
 refine rl_upd (upd_imm 8 .here rfl) ?_
 refine oV (v_assign rfl) ?_
 refine rnf ?_
 refine wsr ?_
 refine oV (v_loadI ty26 rfl) ?_
 refine oV (v_loadI ty26 rfl) ?_
 refine cal_inv h fun y9 hy9 h => ?_
 refine oT (t_call (extend_May_w hy9) hT (.same rfl (.same rfl .nil)) .nil (fun R H' hR => ?_))
 obtain ⟨rfl, rfl⟩ := hR
 refine oV (v_move rfl) ?_
 refine oV (v_extract rfl rfl) ?_
 refine oV (v_extract rfl rfl) ?_
 refine oV (v_assign rfl) ?_
 refine oV (v_assign rfl) ?_
 refine rnf ?_
 refine wsr ?_
 refine oV (v_move rfl) ?_
 refine oV (v_eql rfl rfl) ?_
 refine oV (v_move rfl) ?_
 refine oV (v_move rfl) ?_
 refine rl_j (ι := Bool) (γ := Unit) (fun q10 g10 => [(37, isv (q10))]) (fun q10 g10 => []) .nil h 2 rfl (fun q10 g10 h => ?_) (fun J11 h hJ11 => ?_)
 ·
  refine oV (v_assign rfl) ?_
  refine oV (v_assign rfl) ?_
  refine rnf ?_
  refine w_ret ?_
  refine ret_post (.tmp rfl (.tmp rfl .nil)) .nil ?_
  obtain rfl := Option.some.inj h
  exact ⟨rfl, rfl⟩
 ·
  refine rl_condM (j := 35) h rfl (fun g12 h => ?_) (fun g12 h => ?_)
  ·
   refine op_take rfl rfl (dj := 35) rfl g12 (OpV.t (v_move rfl) ?_)
   refine oV (v_pick_t rfl g12 rfl) ?_
   exact hJ11 _ () h _ (join_imp 2 rfl rfl (mod_cons (j := 37) rfl (fun _ _ h => h) mod_nil) .nil)
  ·
   refine op_pass rfl (dj := 35) rfl g12 ?_
   refine oV (v_pick_f rfl g12 rfl) ?_
   exact hJ11 _ () h _ (join_imp 2 rfl rfl (mod_cons (j := 37) rfl (fun _ _ h => h) mod_nil) .nil)

end Go.Proofs.YtajbipkppngccaaDoor


namespace Go.Sy
section tot
variable {α β ι : Type}
/-- It answers, and so. -/
def T (R : β → Prop) (o : Option β) : Prop := ∃ r, o = some r ∧ R r
theorem T.some {R : β → Prop} {r : β} (h : R r) : T R (some r) := ⟨r, rfl, h⟩
theorem T.mono {R R' : β → Prop} {o : Option β} (h : T R o) (k : ∀ r, R r → R' r) : T R' o := by
  obtain ⟨r, h1, h2⟩ := h; exact ⟨r, h1, k r h2⟩
theorem T.cal {Q : α → Prop} {R : β → Prop} {m : Option α} {k : α → Option β} (h : T Q m) (hk : ∀ y, m = Option.some y → Q y → T R (k y)) : T R (cal m k) := by
  obtain ⟨y, h1, h2⟩ := h
  subst h1
  exact hk y rfl h2
theorem T.eq {R : β → Prop} {m : Option α} {k : α → Option β} {y : α} (h : m = Option.some y) (hk : T R (k y)) : T R (Sy.cal m k) := by subst h; exact hk
theorem bI64_of {x : Int} (h : inI64 x) : bI64 x = true := by
  unfold inI64 at h
  cases x with
  | ofNat n =>
    simp only [Int.ofNat_eq_natCast] at h
    exact Nat.ble_eq_true_of_le (by omega)
  | negSucc n => exact Nat.ble_eq_true_of_le (by omega)
theorem T.ck {R : β → Prop} {x : Int} {k : Option β} (hx : -9223372036854775808 ≤ x ∧ x ≤ 9223372036854775807) (h : T R k) : T R (ck x k) := by
  unfold Sy.ck; rw [bI64_of hx]; exact h
theorem T.asr {R : β → Prop} {b : Bool} {k : Option β} (hb : b = true) (h : T R k) : T R (asr b k) := by subst hb; exact h
theorem T.asd {R : β → Prop} {p : Prop} [Decidable p] {k : Option β} (hb : p) (h : T R k) : T R (Sy.asr (decide p) k) := T.asr (decide_eq_true hb) h
theorem T.abl {R : β → Prop} {a b : Nat} {k : Option β} (hb : a ≤ b) (h : T R k) : T R (Sy.asr (Nat.ble a b) k) := T.asr (Nat.ble_eq_true_of_le hb) h
theorem T.br {R : β → Prop} {b : Bool} {t e : Option β} (ht : b = true → T R t) (he : b = false → T R e) : T R (br b t e) := by
  cases b with
  | true => exact ht rfl
  | false => exact he rfl
theorem T.jp (Q : ι → Prop) {R : β → Prop} {B : (ι → Option β) → Option β} {K : ι → Option β} (hB : ∀ J, (∀ i, Q i → T R (J i)) → T R (B J)) (hK : ∀ i, Q i → T R (K i)) : T R (jp B K) := hB K hK
/-- Where the ways are few: as it stands. -/
theorem T.jp0 {R : β → Prop} {B : (ι → Option β) → Option β} {K : ι → Option β} (h : T R (B K)) : T R (Sy.jp B K) := h
theorem T.lp (I : ι → Prop) (μ : ι → Nat) {R : β → Prop} {F : (ι → Option β) → ι → Option β} {i0 : ι} (h0 : I i0) (hμ : μ i0 < 1000000000000000000) (h : ∀ (L : ι → Option β) i, I i → (∀ j, I j → μ j < μ i → T R (L j)) → T R (F L i)) : T R (lp F i0) := by
  have key : ∀ n i, I i → μ i < n → T R (lpN F n i) := by
    intro n
    induction n with
    | zero => intro i _ hn; omega
    | succ n ih => intro i hi hn; exact h (lpN F n) i hi fun j hj hl => ih j hj (by omega)
  unfold Sy.lp fuel
  exact key _ _ h0 hμ
theorem getI_some {l : List α} {i : Int} (h0 : 0 ≤ i) (h1 : i < l.length) : getI l i = some (l[i.toNat]'(by omega)) := by
  unfold getI
  cases i with
  | ofNat n => simp only [Int.ofNat_eq_natCast] at h1; simp
  | negSucc n => omega
theorem T.get {R : β → Prop} {l : List α} {i : Int} {k : α → Option β} (h0 : 0 ≤ i) (h1 : i < l.length) (hk : ∀ y, l[i.toNat]? = Option.some y → T R (k y)) : T R (Sy.cal (getI l i) k) :=
  T.eq (getI_some h0 h1) (hk _ (List.getElem?_eq_getElem (by omega)))
theorem T.iff {R : β → Prop} {o : Option β} {x : β} (h : T (fun r => r = x) o) : o = Option.some x := by
  obtain ⟨r, h1, h2⟩ := h; rw [h1, h2]
theorem T.of {o : Option β} {R : β → Prop} {x : β} (h : o = Option.some x) (hx : R x) : T R o := ⟨x, h, hx⟩
theorem T.get? {o : Option β} {R : β → Prop} (h : T R o) {r : β} (e : o = Option.some r) : R r := by
  obtain ⟨r', h1, h2⟩ := h; rw [h1] at e; cases e; exact h2
end tot
end Go.Sy


namespace Go.Proofs.YtajbipkppngccaaDoor
open Go.Sy
set_option linter.unusedVariables false

theorem at_tot (s : Str) (i : Int) : T (fun r => r = (if 0 ≤ i then (s.b[i.toNat]?).getD 0 else 0)) (r04_at s i) := by
  unfold r04_at
  refine T.jp (fun q => q = decide (¬ (0 ≤ i ∧ i < s.b.length))) (fun J h => ?_) (fun q hq => ?_)
  · refine T.br (fun h1 => h _ ?_) (fun h1 => h _ ?_)
    · have := of_decide_eq_true h1; simp; omega
    · have := of_decide_eq_false h1
      by_cases h2 : (s.b.length : Int) ≤ i <;> simp [h2] <;> omega
  · subst hq
    refine T.br (fun h1 => T.some ?_) (fun h1 => ?_)
    · have h2 := of_decide_eq_true h1
      split
      · rename_i h3
        rw [List.getElem?_eq_none (by omega)]; rfl
      · rfl
    · have h2 := of_decide_eq_false h1
      refine T.get (by omega) (by omega) fun y hy => T.some ?_
      rw [if_pos (by omega), hy]; rfl

def isLetter (c : UInt8) : Bool := (decide (97 ≤ c) && decide (c ≤ 122)) || (decide (65 ≤ c) && decide (c ≤ 90))
def isDigit (c : UInt8) : Bool := decide (48 ≤ c) && decide (c ≤ 57)
theorem letter_eq (c : UInt8) : r04_letter c = some (isLetter c) := by
  unfold r04_letter isLetter jp br
  cases decide (97 ≤ c) <;> cases decide (c ≤ 122) <;> cases decide (65 ≤ c) <;> cases decide (c ≤ 90) <;> rfl
theorem digit_eq (c : UInt8) : r04_digit c = some (isDigit c) := by
  unfold r04_digit isDigit jp br
  cases decide (48 ≤ c) <;> cases decide (c ≤ 57) <;> rfl

theorem white_tot (s : Str) (i : Int) (h0 : 0 ≤ i) (h1 : i ≤ s.b.length) (hl : s.b.length ≤ 1000000) : T (fun r => i ≤ r ∧ r ≤ s.b.length) (r04_white s i) := by
  unfold r04_white
  refine T.lp (fun k => i ≤ k ∧ k ≤ s.b.length) (fun k => (s.b.length - k).toNat) ⟨Int.le_refl _, h1⟩ (by omega) fun L k hk hL => ?_
  refine T.br (fun hb => ?_) (fun _ => T.some hk)
  have hb := of_decide_eq_true hb
  refine T.get (by omega) hb fun y hy => ?_
  refine T.jp (fun _ => True) (fun J h => T.br (fun _ => h _ trivial) fun _ => T.get (by omega) hb fun _ _ => h _ trivial) fun q _ => ?_
  refine T.jp (fun _ => True) (fun J h => T.br (fun _ => h _ trivial) fun _ => T.get (by omega) hb fun _ _ => h _ trivial) fun q _ => ?_
  refine T.jp (fun _ => True) (fun J h => T.br (fun _ => h _ trivial) fun _ => T.get (by omega) hb fun _ _ => h _ trivial) fun q _ => ?_
  refine T.br (fun _ => T.ck (by omega) (hL _ (by omega) (by omega))) fun _ => ?_
  refine T.get (by omega) hb fun y hy => ?_
  refine T.jp (fun q => q = true → k + 2 ≤ s.b.length) (fun J h => T.br (fun _ => T.ck (by omega) (T.cal (at_tot s (k + 1)) fun y _ hy => h _ fun hq => ?_)) fun _ => h _ (fun h => by cases h)) fun q hq => ?_
  · have := of_decide_eq_true hq
    subst this
    rw [if_pos (by omega)] at hy
    rcases Nat.lt_or_ge (k + 1).toNat s.b.length with h3 | h3
    · omega
    · rw [List.getElem?_eq_none h3] at hy; cases hy
  refine T.br (fun hb2 => T.ck (by omega) ?_) (fun _ => T.some hk)
  have hq' := hq hb2
  refine T.lp (fun j => k + 2 ≤ j ∧ j ≤ s.b.length) (fun j => (s.b.length - j).toNat) ⟨Int.le_refl _, hq'⟩ (by omega) fun L2 j hj hL2 => ?_
  refine T.jp (fun q => q = true → j < s.b.length) (fun J h => T.br (fun h2 => ?_) fun _ => h _ (fun h => by cases h)) fun q hq2 => ?_
  · have h2 := of_decide_eq_true h2
    exact T.get (by omega) h2 fun _ _ => h _ fun _ => h2
  refine T.br (fun h2 => ?_) (fun _ => hL _ (by omega) (by omega))
  have h2 := hq2 h2
  refine T.get (by omega) h2 fun y hy => ?_
  refine T.jp (fun q => q = true → j + 2 ≤ s.b.length) (fun J h => T.br (fun _ => T.ck (by omega) (T.cal (at_tot s (j + 1)) fun y _ hy => h _ fun hq => ?_)) fun _ => h _ (fun h => by cases h)) fun q hq3 => ?_
  · have := of_decide_eq_true hq
    subst this
    rw [if_pos (by omega)] at hy
    rcases Nat.lt_or_ge (j + 1).toNat s.b.length with h3 | h3
    · omega
    · rw [List.getElem?_eq_none h3] at hy; cases hy
  refine T.br (fun h3 => T.ck (by omega) ?_) (fun _ => T.ck (by omega) (hL2 _ (by omega) (by omega)))
  have h3 := hq3 h3
  exact hL _ (by omega) (by omega)

theorem name_tot (s : Str) (i : Int) (h0 : 0 ≤ i) (h1 : i < s.b.length) (hl : s.b.length ≤ 1000000) (hc : ∀ y, s.b[i.toNat]? = some y → isLetter y = true) : T (fun r => r = -1 ∨ (i < r ∧ r ≤ s.b.length)) (r04_name s i) := by
  unfold r04_name
  refine T.lp (fun k => i ≤ k ∧ k ≤ s.b.length) (fun k => (s.b.length - k).toNat) ⟨Int.le_refl _, by omega⟩ (by omega) fun L k hk hL => ?_
  refine T.jp (fun q => (q = true → k < s.b.length) ∧ (q = false → i < k)) (fun J h => ?_) fun q hq => ?_
  · refine T.br (fun hb => ?_) (fun hb => h _ ⟨(fun h => by cases h), fun _ => by have := of_decide_eq_false hb; omega⟩)
    have hb := of_decide_eq_true hb
    refine T.get (by omega) hb fun y hy => ?_
    refine T.eq (letter_eq y) ?_
    refine T.jp (fun q => isLetter y = true → q = true) (fun J2 h2 => ?_) fun q hq => ?_
    · exact T.br (fun _ => h2 _ fun _ => rfl) fun hn => T.get (by omega) hb fun y2 _ => T.eq (digit_eq y2) (h2 _ fun hy => by rw [hn] at hy; cases hy)
    refine T.jp (fun q => isLetter y = true → q = true) (fun J2 h2 => ?_) fun q hq => ?_
    · refine T.br (fun _ => h2 _ fun _ => rfl) fun hn => T.get (by omega) hb fun y2 _ => ?_
      have hno : ¬ isLetter y = true := fun hy => by rw [hq hy] at hn; cases hn
      refine T.jp (fun _ => True) (fun J3 h3 => T.br (fun _ => T.ck (by omega) (T.cal (at_tot s _) fun _ _ _ => h3 _ trivial)) fun _ => h3 _ trivial) fun q _ => h2 _ fun hy => absurd hy hno
    · refine h _ ⟨fun _ => hb, fun hn => ?_⟩
      rcases Int.lt_or_eq_of_le hk.1 with h2 | h2
      · exact h2
      · subst h2
        have := hq (hc y hy)
        rw [this] at hn; cases hn
  refine T.br (fun hb => T.ck (by have := hq.1 hb; omega) (hL _ (by have := hq.1 hb; omega) (by have := hq.1 hb; omega))) fun hb => ?_
  have hlt := hq.2 hb
  refine T.ck (by omega) (T.get (by omega) (by omega) fun y _ => ?_)
  refine T.jp (fun _ => True) (fun J h => T.br (fun _ => h _ trivial) fun _ => T.ck (by omega) (h _ trivial)) fun q _ => ?_
  exact T.br (fun _ => T.some (.inl rfl)) fun _ => T.some (.inr ⟨hlt, hk.2⟩)
end Go.Proofs.YtajbipkppngccaaDoor


namespace Go.Proofs.YtajbipkppngccaaDoor
open Go.Sy
set_option linter.unusedVariables false

theorem snocInd {α : Type} {P : List α → Prop} (h0 : P []) (h1 : ∀ l a, P l → P (l ++ [a])) (l : List α) : P l := by
  have : ∀ m : List α, P m.reverse := by
    intro m
    induction m with
    | nil => exact h0
    | cons a m ih => rw [List.reverse_cons]; exact h1 _ _ ih
  have h := this l.reverse
  rwa [List.reverse_reverse] at h

/-- What digits say. -/
def dval (l : List UInt8) : Nat := l.foldl (fun v d => 10 * v + (d.toNat - 48)) 0
def uval (l : List UInt8) : UInt64 := l.foldl (fun v d => 10 * v + (d - 48).toUInt64) 0
theorem digit_range {d : UInt8} (h : isDigit d = true) : 48 ≤ d.toNat ∧ d.toNat ≤ 57 := by
  unfold isDigit at h
  simp only [Bool.and_eq_true, decide_eq_true_eq] at h
  have h1 := UInt8.le_iff_toNat_le.1 h.1
  have h2 := UInt8.le_iff_toNat_le.1 h.2
  simp at h1 h2
  omega
theorem digit_u {d : UInt8} (h : isDigit d = true) : (d - 48).toUInt64.toNat = d.toNat - 48 := by
  have h1 := digit_range h
  have h2 := d.toNat_lt
  have h3 : (48 : UInt8).toNat = 48 := rfl
  rw [UInt8.toNat_toUInt64, UInt8.toNat_sub, h3]
  omega
theorem dval_snoc (l : List UInt8) (d : UInt8) : dval (l ++ [d]) = 10 * dval l + (d.toNat - 48) := by simp [dval]
theorem uval_snoc (l : List UInt8) (d : UInt8) : uval (l ++ [d]) = 10 * uval l + (d - 48).toUInt64 := by simp [uval]
def digs (l : List UInt8) : Prop := ∀ d ∈ l, isDigit d = true
theorem digs_snoc {l : List UInt8} {d : UInt8} (h : digs (l ++ [d])) : digs l ∧ isDigit d = true :=
  ⟨fun x hx => h x (List.mem_append_left _ hx), h d (List.mem_append_right _ (List.mem_singleton.2 rfl))⟩
theorem dval_lt (l : List UInt8) : digs l → dval l < 10 ^ l.length := by
  refine snocInd (P := fun l => digs l → dval l < 10 ^ l.length) (fun _ => by simp [dval]) (fun l d ih h => ?_) l
  obtain ⟨h1, h2⟩ := digs_snoc h
  have h3 := ih h1
  have h4 := digit_range h2
  rw [dval_snoc, List.length_append, List.length_singleton, Nat.pow_succ]
  omega
theorem pow19 {n : Nat} (h : n ≤ 19) : 10 ^ n ≤ 10000000000000000000 := by
  have := Nat.pow_le_pow_right (show 0 < 10 by omega) h
  simpa using this
theorem uval_dval (l : List UInt8) : digs l → l.length ≤ 19 → (uval l).toNat = dval l := by
  refine snocInd (P := fun l => digs l → l.length ≤ 19 → (uval l).toNat = dval l) (fun _ _ => by simp [dval, uval]) (fun l d ih h hl => ?_) l
  obtain ⟨h1, h2⟩ := digs_snoc h
  rw [List.length_append, List.length_singleton] at hl
  have h3 := ih h1 (by omega)
  have h4 := digit_range h2
  have h5 := dval_lt (l ++ [d]) h
  rw [List.length_append, List.length_singleton] at h5
  have h6 := pow19 hl
  rw [dval_snoc] at h5
  rw [uval_snoc, dval_snoc, UInt64.toNat_add, UInt64.toNat_mul, h3, digit_u h2]
  have h7 : (10 : UInt64).toNat = 10 := rfl
  rw [h7]
  omega
theorem dval_pos {d : UInt8} {l : List UInt8} (h : digs (d :: l)) (hd : d ≠ 48) : 1 ≤ dval (d :: l) := by
  refine snocInd (P := fun l => digs (d :: l) → 1 ≤ dval (d :: l)) (fun h => ?_) (fun l e ih h => ?_) l h
  · have h1 := digit_range (h d (List.mem_singleton.2 rfl))
    have h2 : d.toNat ≠ 48 := fun e => hd (UInt8.toNat_inj.1 e)
    have e : dval [d] = d.toNat - 48 := by simp [dval]
    omega
  · have h2 := ih (digs_snoc (l := d :: l) h).1
    have e1 := dval_snoc (d :: l) e
    have e2 : d :: (l ++ [e]) = d :: l ++ [e] := rfl
    rw [e2, e1]; omega

/-- A number of 64 bits, as it is written. -/
def NumOk (b : List UInt8) : Prop := ∃ ds, digs ds ∧ ds ≠ [] ∧ ds.length ≤ 19 ∧ ((b = ds ∧ dval ds < 9223372036854775808) ∨ (b = 45 :: ds ∧ 1 ≤ dval ds ∧ dval ds ≤ 9223372036854775808))

theorem seg_snoc {l : List UInt8} {f k : Nat} {y : UInt8} (hf : f ≤ k) (hy : l[k]? = some y) : (l.take (k + 1)).drop f = (l.take k).drop f ++ [y] := by
  have hlt := (List.getElem?_eq_some_iff.1 hy).1
  have h1 : l.take (k + 1) = l.take k ++ [y] := by
    rw [List.take_add_one, hy]; rfl
  rw [h1, List.drop_append_of_le_length (by rw [List.length_take]; omega)]
theorem seg_cons {l : List UInt8} {f k : Nat} {y : UInt8} (hf : f < k) (hk : k ≤ l.length) (hy : l[f]? = some y) : (l.take k).drop f = y :: (l.take k).drop (f + 1) := by
  have h1 : (l.take k)[f]? = some y := by rw [List.getElem?_take, if_pos hf, hy]
  obtain ⟨h2, h3⟩ := List.getElem?_eq_some_iff.1 h1
  rw [List.drop_eq_getElem_cons h2, h3]
theorem seg_len {l : List UInt8} {f k : Nat} (hk : k ≤ l.length) : ((l.take k).drop f).length = k - f := by
  rw [List.length_drop, List.length_take]; omega

set_option maxHeartbeats 1000000 in
theorem number_tot (s : Str) (i : Int) (h0 : 0 ≤ i) (h1 : i < s.b.length) (hl : s.b.length ≤ 1000000) :
    T (fun r => r = -1 ∨ (i < r ∧ r ≤ s.b.length ∧ NumOk ((s.b.take r.toNat).drop i.toNat))) (r04_number s i) := by
  unfold r04_number
  refine T.get h0 h1 fun y1 hy1 => ?_
  refine T.jp (fun f => (y1 = 45 ∧ f = i + 1) ∨ (y1 ≠ 45 ∧ f = i)) (fun J h => T.br (fun hb => T.ck (by omega) (h _ (.inl ⟨of_decide_eq_true hb, rfl⟩))) fun hb => h _ (.inr ⟨of_decide_eq_false hb, rfl⟩)) fun f hf => ?_
  have hf0 : i ≤ f ∧ f ≤ i + 1 := by omega
  have hfl : f ≤ s.b.length := by omega
  refine T.lp (ι := Int × UInt64) (fun q => f ≤ q.1 ∧ q.1 ≤ s.b.length ∧ digs ((s.b.take q.1.toNat).drop f.toNat) ∧ (q.1 - f ≤ 19 → q.2 = uval ((s.b.take q.1.toNat).drop f.toNat))) (fun q => (s.b.length - q.1).toNat)
    (by
      have e : (s.b.take f.toNat).drop f.toNat = [] := List.drop_eq_nil_of_le (by rw [List.length_take]; omega)
      refine ⟨Int.le_refl _, hfl, ?_, ?_⟩
      · rw [e]; intro d hd; cases hd
      · intro _; rw [e]; rfl) (by simp only; omega) fun L q hq hL => ?_
  obtain ⟨k, v⟩ := q
  obtain ⟨hq1, hq2, hq3, hq4⟩ := hq
  simp only at hq1 hq2 hq3 hq4 ⊢
  refine T.jp (fun b => b = true → k < s.b.length ∧ ∀ y, s.b[k.toNat]? = some y → isDigit y = true) (fun J h => ?_) fun b hb => ?_
  · refine T.br (fun h2 => ?_) fun _ => h _ (fun h => by cases h)
    have h2 := of_decide_eq_true h2
    exact T.get (by omega) h2 fun y hy => T.eq (digit_eq y) (h _ fun hd => ⟨h2, fun y' hy' => by rw [hy] at hy'; cases hy'; exact hd⟩)
  refine T.br (fun h2 => ?_) fun _ => ?_
  · obtain ⟨hk, hd⟩ := hb h2
    obtain ⟨y, hy⟩ : ∃ y, s.b[k.toNat]? = some y := ⟨_, List.getElem?_eq_getElem (by omega)⟩
    have hsn := seg_snoc (l := s.b) (f := f.toNat) (k := k.toNat) (y := y) (by omega) hy
    have hk1 : (k + 1).toNat = k.toNat + 1 := by omega
    refine T.ck (by omega) (T.jp (fun u => k - f < 19 → u = 10 * v + (y - 48).toUInt64) (fun J h => T.br (fun _ => ?_) fun h3 => h _ fun h4 => by have := of_decide_eq_false h3; omega) fun u hu => T.ck (by omega) (hL _ ?_ (by simp only; omega)))
    · exact T.get (by omega) hk fun y' hy' => h _ fun _ => by rw [hy] at hy'; cases hy'; rfl
    · refine ⟨by simp only; omega, by simp only; omega, ?_, fun h19 => ?_⟩
      · simp only
        rw [hk1, hsn]
        intro d hd'
        rcases List.mem_append.1 hd' with h | h
        · exact hq3 d h
        · rw [List.mem_singleton.1 h]; exact hd y hy
      · simp only at h19 ⊢
        rw [hk1, hsn, uval_snoc, hu (by omega), hq4 (by omega)]
  refine T.ck (by omega) ?_
  have hlen := seg_len (l := s.b) (f := f.toNat) (k := k.toNat) (by omega)
  refine T.jp (fun b => b = false → 1 ≤ k - f ∧ k - f ≤ 19) (fun J h => T.br (fun _ => h _ (fun h => by cases h)) fun h2 => h _ fun h3 => by have := of_decide_eq_false h2; have := of_decide_eq_false h3; omega) fun b1 hb1 => ?_
  refine T.jp (fun b => b = false → b1 = false) (fun J h => T.br (fun _ => h _ (fun h => by cases h)) fun h2 => ?_) fun b2 hb2 => ?_
  · refine T.jp (fun _ => True) (fun J3 h3 => T.br (fun h4 => T.get (by omega) (by have := of_decide_eq_true h4; omega) fun _ _ => h3 _ trivial) fun _ => h3 _ trivial) fun b _ => h _ fun _ => h2
  refine T.jp (fun b => b = false → b2 = false ∧ (y1 = 45 → ∀ y, s.b[f.toNat]? = some y → y ≠ 48)) (fun J h => T.br (fun _ => h _ (fun h => by cases h)) fun h2 => ?_) fun b3 hb3 => ?_
  · have h5 := hb1 (hb2 h2)
    refine T.jp (fun b => b = false → (y1 = 45 → ∀ y, s.b[f.toNat]? = some y → y ≠ 48)) (fun J3 h3 => T.br (fun h4 => T.get (by omega) (by omega) fun y hy => h3 _ fun h6 _ y' hy' => ?_) fun h4 => h3 _ fun _ h7 => absurd h7 (of_decide_eq_false h4)) fun b hb => h _ fun h6 => ⟨h2, hb h6⟩
    rw [hy] at hy'; cases hy'
    exact of_decide_eq_false h6
  refine T.jp (fun b => b = false → b3 = false) (fun J h => T.br (fun _ => h _ (fun h => by cases h)) fun h2 => T.cal (at_tot s k) fun y _ _ => T.eq (letter_eq y) (h _ fun _ => h2)) fun b4 hb4 => ?_
  refine T.jp (fun b => b = false → b4 = false ∧ ¬ (9223372036854775808 : UInt64) < v) (fun J h => T.br (fun _ => h _ (fun h => by cases h)) fun h2 => h _ fun h3 => ⟨h2, of_decide_eq_false h3⟩) fun b5 hb5 => ?_
  refine T.jp (fun b => b = false → b5 = false ∧ (y1 ≠ 45 → v ≠ 9223372036854775808)) (fun J h => T.br (fun _ => h _ (fun h => by cases h)) fun h2 => ?_) fun b6 hb6 => ?_
  · refine T.jp (fun b => b = false → (y1 ≠ 45 → v ≠ 9223372036854775808)) (fun J3 h3 => T.br (fun h4 => h3 _ fun h5 _ => of_decide_eq_false h5) fun h4 => h3 _ fun _ h5 => absurd h4 (by simp [h5])) fun b hb => h _ fun h6 => ⟨h2, hb h6⟩
  refine T.br (fun _ => T.some (.inl rfl)) fun h2 => T.some (.inr ?_)
  obtain ⟨e5, hv2⟩ := hb6 h2
  obtain ⟨e4, hv1⟩ := hb5 e5
  obtain ⟨e2, hz⟩ := hb3 (hb4 e4)
  obtain ⟨n1, n2⟩ := hb1 (hb2 e2)
  have hv := hq4 n2
  have hvn := uval_dval _ hq3 (by rw [hlen]; omega)
  rw [← hv] at hvn
  have hle : v.toNat ≤ 9223372036854775808 := by
    have : ¬ (9223372036854775808 : UInt64).toNat < v.toNat := fun h => hv1 (UInt64.lt_iff_toNat_lt.2 h)
    have e : (9223372036854775808 : UInt64).toNat = 9223372036854775808 := rfl
    omega
  refine ⟨by omega, hq2, (s.b.take k.toNat).drop f.toNat, hq3, fun h => by rw [h] at hlen; simp at hlen; omega, by rw [hlen]; omega, ?_⟩
  rcases hf with ⟨h45, hfi⟩ | ⟨h45, hfi⟩
  · right
    have hs := seg_cons (l := s.b) (f := i.toNat) (k := k.toNat) (y := y1) (by omega) (by omega) hy1
    have e : i.toNat + 1 = f.toNat := by omega
    rw [e] at hs
    refine ⟨by rw [hs, h45], ?_, by omega⟩
    obtain ⟨y, hy⟩ : ∃ y, s.b[f.toNat]? = some y := ⟨_, List.getElem?_eq_getElem (by omega)⟩
    have hs2 := seg_cons (l := s.b) (f := f.toNat) (k := k.toNat) (y := y) (by omega) (by omega) hy
    rw [hs2] at hq3 ⊢
    exact dval_pos hq3 (hz h45 y hy)
  · left
    subst hfi
    refine ⟨rfl, ?_⟩
    have h3 := hv2 h45
    have : v.toNat ≠ 9223372036854775808 := fun e => h3 (UInt64.toNat_inj.1 e)
    omega
end Go.Proofs.YtajbipkppngccaaDoor


namespace Go.Proofs.YtajbipkppngccaaDoor
open Go.Sy
set_option linter.unusedVariables false

theorem hex_tot (s : Str) (i : Int) (h0 : 0 ≤ i) (h1 : i < s.b.length) (hl : s.b.length ≤ 1000000) :
    T (fun (r : Int × Str) => r.1 = -1 ∨ (i < r.1 ∧ r.1 ≤ (s.b.length : Int) ∧ r.2.b.length ≤ s.b.length)) (r04_hex s i) := by
  unfold r04_hex
  refine T.ck (by omega) (T.lp (fun (k : Int) => i + 1 ≤ k ∧ k ≤ (s.b.length : Int)) (fun (k : Int) => ((s.b.length : Int) - k).toNat) ⟨Int.le_refl _, by omega⟩ (by omega) fun L k hk hL => ?_)
  refine T.jp (fun b => b = true → k < s.b.length) (fun J h => T.br (fun h2 => ?_) fun _ => h _ (fun h => by cases h)) fun b hb => ?_
  · have h2 := of_decide_eq_true h2
    refine T.get (by omega) h2 fun y _ => T.eq (digit_eq y) ?_
    refine T.jp (fun _ => True) (fun J2 h3 => T.br (fun _ => h3 _ trivial) fun _ => T.get (by omega) h2 fun y _ => ?_) fun q _ => h _ fun _ => h2
    refine T.jp (fun _ => True) (fun J4 h4 => T.br (fun _ => T.get (by omega) h2 fun _ _ => h4 _ trivial) fun _ => h4 _ trivial) fun q _ => h3 _ trivial
  refine T.br (fun h2 => T.ck (by have := hb h2; omega) (hL _ (by have := hb h2; omega) (by have := hb h2; omega))) fun _ => ?_
  refine T.ck (by omega) (T.asr rfl ?_)
  have hat : ∀ (j : Int) y, y = (if 0 ≤ j then (s.b[j.toNat]?).getD 0 else 0) → y ≠ 0 → 0 ≤ j ∧ j < s.b.length := by
    intro j y hy h0
    split at hy
    · rename_i h3
      refine ⟨h3, ?_⟩
      rcases Nat.lt_or_ge j.toNat s.b.length with h4 | h4
      · omega
      · rw [List.getElem?_eq_none h4] at hy; exact absurd hy h0
    · exact absurd hy h0
  refine T.jp (fun _ => True) (fun J h => T.br (fun _ => h _ trivial) fun _ => T.cal (at_tot s k) fun y _ hy => h _ trivial) fun b1 hb1 => ?_
  refine T.jp (fun b => b = false → k + 1 < s.b.length) (fun J h => T.br (fun _ => h _ (fun h => by cases h)) fun _ => T.ck (by omega) (T.cal (at_tot s (k + 1)) fun y _ hy => h _ fun h4 => ?_)) fun b2 hb2 => ?_
  · have h5 : y = 72 := by simpa using h4
    exact (hat _ _ hy (by rw [h5]; decide)).2
  refine T.br (fun _ => T.some (.inl rfl)) fun h3 => T.ck (by omega) (T.asd ?_ (T.some (.inr ?_)))
  · have := hb2 h3; omega
  · have := hb2 h3
    refine ⟨by dsimp only; omega, by dsimp only; omega, ?_⟩
    simp only [List.length_drop, List.length_take]; omega

theorem quoted_tot (s : Str) (i : Int) (h0 : 0 ≤ i) (h1 : i < s.b.length) (hl : s.b.length ≤ 1000000) :
    T (fun (r : Int × Str) => r.1 = -1 ∨ (i < r.1 ∧ r.1 ≤ (s.b.length : Int) ∧ r.2.b.length ≤ s.b.length)) (r04_quoted s i) := by
  unfold r04_quoted
  refine T.ck (by omega) (T.lp (ι := Int × Str) (fun q => i + 1 ≤ q.1 ∧ q.1 ≤ s.b.length + 1 ∧ (q.2.b.length : Int) < q.1) (fun q => (s.b.length + 1 - q.1).toNat) ⟨Int.le_refl _, by dsimp only; omega, by dsimp only; simp only [List.length_nil]; omega⟩ (by dsimp only; omega) fun L q hq hL => ?_)
  obtain ⟨k, o⟩ := q
  obtain ⟨hq1, hq2, hq3⟩ := hq
  simp only at hq1 hq2 hq3 ⊢
  refine T.br (fun h2 => ?_) fun _ => T.some (.inl rfl)
  have h2 := of_decide_eq_true h2
  refine T.jp (fun (q : Int × Str) => k ≤ q.1 ∧ q.1 < (s.b.length : Int) ∧ (q.2.b.length : Int) < q.1 + 1) (fun J h => ?_) fun q hq => ?_
  · refine T.get (by omega) h2 fun y _ => T.br (fun _ => ?_) fun _ => ?_
    · refine T.ck (by omega) (T.asd (by omega) (T.abl ?_ (h _ ?_)))
      · simp only [List.length_drop, List.length_take]; omega
      · refine ⟨Int.le_refl _, by dsimp only; omega, ?_⟩
        simp only [List.length_append, List.length_drop, List.length_take]; omega
    · refine T.ck (by omega) (T.cal (at_tot s (k + 1)) fun y2 _ hy2 => T.br (fun _ => ?_) fun h34 => ?_)
      · exact T.eq rfl (T.br (fun _ => T.some (.inl rfl)) fun _ => T.ck (by omega) (T.some (.inr ⟨by dsimp only; omega, by dsimp only; omega, by dsimp only; omega⟩)))
      · have hlt : k + 1 < s.b.length := by
          have h5 : y2 = 34 := by simpa using h34
          rw [if_pos (by omega)] at hy2
          rcases Nat.lt_or_ge (k + 1).toNat s.b.length with h4 | h4
          · omega
          · rw [List.getElem?_eq_none h4, h5] at hy2; cases hy2
        refine T.abl ?_ (T.ck (by omega) (h _ ?_))
        · simp only [List.length_cons, List.length_nil]; omega
        · refine ⟨by dsimp only; omega, by dsimp only; omega, ?_⟩
          simp only [List.length_append, List.length_cons, List.length_nil]; omega
  · exact T.ck (by omega) (hL _ ⟨by dsimp only; omega, by dsimp only; omega, hq.2.2⟩ (by dsimp only; omega))

theorem in_string_tot (l : List Str) (x : Str) (hl : l.length ≤ 1000000) : T (fun r => r = decide (x ∈ l)) (h_In_string l x) := by
  unfold h_In_string
  refine T.lp (fun (k : Int) => 0 ≤ k ∧ k ≤ (l.length : Int) ∧ x ∉ l.take k.toNat) (fun (k : Int) => ((l.length : Int) - k).toNat) ⟨Int.le_refl _, by omega, by simp⟩ (by omega) fun L k hk hL => ?_
  refine T.br (fun h2 => ?_) fun h2 => T.some ?_
  · have h2 := of_decide_eq_true h2
    refine T.get hk.1 h2 fun y hy => T.br (fun h3 => T.some ?_) fun h3 => T.ck (by omega) (hL _ ⟨by omega, by omega, ?_⟩ (by omega))
    · have h3 := of_decide_eq_true h3
      subst h3
      exact (decide_eq_true (List.mem_of_getElem? hy)).symm
    · have h3 := of_decide_eq_false h3
      have e : (k + 1).toNat = k.toNat + 1 := by omega
      rw [e, List.take_add_one, hy]
      simp only [Option.toList_some, List.mem_append, List.mem_singleton, not_or]
      exact ⟨hk.2.2, fun h => h3 h.symm⟩
  · have h2 := of_decide_eq_false h2
    have h4 := hk.2.2
    rw [List.take_of_length_le (by omega)] at h4
    exact (decide_eq_false h4).symm

theorem sign_tot (s : Str) (i : Int) (h0 : 0 ≤ i) (h1 : i < s.b.length) (hl : s.b.length ≤ 1000000) : T (fun (r : Int) => 0 ≤ r ∧ i + r ≤ (s.b.length : Int)) (r04_sign s i) := by
  unfold r04_sign
  refine T.asd (by omega) (T.lp (fun (k : Int) => 0 ≤ k) (fun (k : Int) => (13 - k).toNat) (Int.le_refl _) (by omega) fun L k hk hL => ?_)
  refine T.br (fun h2 => ?_) fun _ => T.some ⟨Int.le_refl _, by omega⟩
  have h2 := of_decide_eq_true h2
  have hrest : ((Str.mk ((s.b.take ((s.b.length : Int)).toNat).drop i.toNat)).b.length : Int) = s.b.length - i := by
    simp only [List.length_drop, List.length_take]; omega
  refine T.get hk h2 fun y hy => ?_
  refine T.jp (fun b => b = true → i + (y.b.length : Int) ≤ s.b.length) (fun J h => T.br (fun h3 => ?_) fun _ => h _ (fun h => by cases h)) fun b hb => ?_
  · have h3 := of_decide_eq_true h3
    rw [hrest] at h3
    refine T.asd ⟨Int.le_refl _, by omega, by rw [hrest]; exact h3⟩ (T.get hk h2 fun y2 hy2 => h _ fun _ => by omega)
  · refine T.br (fun h3 => T.some ⟨by omega, hb h3⟩) fun _ => T.ck (by have h2 : k < 13 := h2; omega) (hL _ (by omega) ?_)
    have h2 : k < 13 := h2
    omega

/-- What a sign of the text is. -/
structure TokOk (n : Nat) (t : GTok) : Prop where
  num : t.kind = 3 → NumOk t.text.b
  len : t.text.b.length ≤ n
  at0 : 0 ≤ t.at_ ∧ t.at_ ≤ n
theorem words_len : ∀ r, r04_words = some r → r.length ≤ 1000000 := by
  intro r h
  unfold r04_words at h
  have := Option.some.inj h
  subst this
  decide
theorem word_tot (s : Str) : T (fun _ => True) (r04_Word s) := by
  unfold r04_Word
  refine T.cal (Q := fun _ => True) ⟨_, rfl, trivial⟩ fun y hy _ => T.cal (in_string_tot y s (words_len y hy)) fun _ _ _ => T.some trivial

theorem one_tot (s : Str) (i : Int) (h0 : 0 ≤ i) (h1 : i < s.b.length) (hl : s.b.length ≤ 1000000) :
    T (fun (r : GTok × Int) => r.2 < 0 ∨ (i < r.2 ∧ r.2 ≤ (s.b.length : Int) ∧ TokOk s.b.length r.1 ∧ 1 ≤ r.1.kind ∧ r.1.kind ≤ 7)) (r04_one s i) := by
  unfold r04_one
  refine T.get h0 h1 fun y hy => ?_
  refine T.jp (ι := Int × GTok) (fun (q : Int × GTok) => q.1 < 0 ∨ (i < q.1 ∧ q.1 ≤ (s.b.length : Int) ∧ TokOk s.b.length q.2 ∧ 1 ≤ q.2.kind ∧ q.2.kind ≤ 7)) (fun J h => ?_) fun q hq => T.some hq
  have hsub : ∀ (a b : Nat), ((s.b.take a).drop b).length ≤ s.b.length := fun a b => by rw [List.length_drop, List.length_take]; omega
  refine T.eq (letter_eq y) (T.br (fun hle => ?_) fun _ => T.eq (digit_eq y) ?_)
  · refine T.cal (name_tot s i h0 h1 hl fun y' hy' => by rw [hy] at hy'; cases hy'; exact hle) fun e _ he => T.br (fun _ => T.some (.inl (by dsimp only; omega))) fun hn => ?_
    have hn := of_decide_eq_false hn
    have he' : i < e ∧ e ≤ s.b.length := by omega
    refine T.asd (by omega) (T.jp (ι := GTok) (fun t => (t.kind = 1 ∨ t.kind = 2) ∧ t.text.b.length ≤ s.b.length ∧ t.at_ = i) (fun J2 h2 => T.br (fun _ => h2 _ ⟨.inl rfl, hsub _ _, rfl⟩) fun _ => h2 _ ⟨.inr rfl, hsub _ _, rfl⟩) fun t ht => ?_)
    obtain ⟨ht1, ht2, ht3⟩ := ht
    refine T.cal (word_tot t.text) fun w _ _ => T.br (fun _ => h _ (.inr ⟨he'.1, he'.2, ⟨fun h => by simp at h, ht2, by dsimp only; omega⟩, by simp, by simp⟩)) fun _ => h _ (.inr ⟨he'.1, he'.2, ⟨fun h => by rw [h] at ht1; omega, ht2, by dsimp only; omega⟩, by dsimp only; omega, by dsimp only; omega⟩)
  · refine T.jp (fun _ => True) (fun J2 h2 => T.br (fun _ => h2 _ trivial) fun _ => ?_) fun b _ => ?_
    · refine T.jp (fun _ => True) (fun J3 h3 => T.br (fun _ => T.ck (by omega) (T.cal (at_tot s _) fun y _ _ => T.eq (digit_eq y) (h3 _ trivial))) fun _ => h3 _ trivial) fun _ _ => h2 _ trivial
    refine T.br (fun _ => T.cal (number_tot s i h0 h1 hl) fun e _ he => T.br (fun _ => T.some (.inl (by dsimp only; omega))) fun hn => ?_) fun _ => ?_
    · have hn := of_decide_eq_false hn
      have he' : i < e ∧ e ≤ s.b.length ∧ NumOk ((s.b.take e.toNat).drop i.toNat) := by
        rcases he with h | h
        · omega
        · exact h
      exact T.asd (by omega) (h _ (.inr ⟨he'.1, he'.2.1, ⟨fun _ => he'.2.2, hsub _ _, by dsimp only; omega⟩, by simp, by simp⟩))
    · refine T.br (fun _ => T.cal (hex_tot s i h0 h1 hl) fun e _ he => h _ ?_) fun _ => T.br (fun _ => T.cal (quoted_tot s i h0 h1 hl) fun e _ he => h _ ?_) fun _ => ?_
      · rcases he with h | h
        · left; rw [h]; decide
        · exact .inr ⟨h.1, h.2.1, ⟨fun h => by simp at h, h.2.2, by dsimp only; omega⟩, by simp, by simp⟩
      · rcases he with h | h
        · left; rw [h]; decide
        · exact .inr ⟨h.1, h.2.1, ⟨fun h => by simp at h, h.2.2, by dsimp only; omega⟩, by simp, by simp⟩
      · refine T.cal (sign_tot s i h0 h1 hl) fun e _ he => T.br (fun hp => ?_) fun _ => h _ (.inl (by dsimp only; omega))
        have hp := of_decide_eq_true hp
        exact T.ck (by omega) (T.asd (by omega) (T.ck (by omega) (h _ (.inr ⟨by dsimp only; omega, by dsimp only; omega, ⟨fun h => by simp at h, hsub _ _, by dsimp only; omega⟩, by simp, by simp⟩))))

/-- All signs of a text: the last one is the end. -/
structure ToksOk (l : List GTok) : Prop where
  len : l.length ≤ 8001
  ok : ∀ t ∈ l, TokOk 8000 t
  last : ∃ m e, l = m ++ [e] ∧ e.kind = 0 ∧ ∀ t ∈ m, 1 ≤ t.kind ∧ t.kind ≤ 7

theorem tokens_tot (s : Str) : T (fun r => r.2.2 = 0 → ToksOk r.1) (r04_Tokens s) := by
  unfold r04_Tokens
  refine T.br (fun _ => T.some (fun h => by cases h)) fun hl => ?_
  have hl := of_decide_eq_false hl
  refine T.lp (ι := List GTok × Int) (fun (q : List GTok × Int) => 0 ≤ q.2 ∧ q.2 ≤ (s.b.length : Int) ∧ (q.1.length : Int) ≤ q.2 ∧ (∀ t ∈ q.1, TokOk 8000 t ∧ 1 ≤ t.kind ∧ t.kind ≤ 7)) (fun (q : List GTok × Int) => ((s.b.length : Int) - q.2).toNat) ⟨Int.le_refl _, by dsimp only; omega, by simp, by simp⟩ (by dsimp only; omega) fun L q hq hL => ?_
  obtain ⟨l, k⟩ := q
  obtain ⟨h1, h2, h3, h4⟩ := hq
  simp only at h1 h2 h3 h4 ⊢
  refine T.cal (white_tot s k h1 h2 (by omega)) fun e _ he => T.br (fun _ => ?_) fun hb => ?_
  · refine T.abl (by simp only [List.length_cons, List.length_nil]; omega) (T.some fun _ => ⟨?_, ?_, ⟨l, _, rfl, rfl, fun t ht => (h4 t ht).2⟩⟩)
    · simp only [List.length_append, List.length_cons, List.length_nil]; omega
    · intro t ht
      rcases List.mem_append.1 ht with h | h
      · exact (h4 t h).1
      · rw [List.mem_singleton.1 h]; exact ⟨fun h => by simp at h, by simp, by dsimp only; omega⟩
  · have hb := of_decide_eq_false hb
    refine T.cal (one_tot s e (by omega) (by omega) (by omega)) fun r _ hr => T.br (fun _ => T.some (fun h => by cases h)) fun hn => ?_
    have hn := of_decide_eq_false hn
    rcases hr with h | ⟨r1, r2, r3, r4, r5⟩
    · exact absurd h hn
    refine T.abl (by simp only [List.length_cons, List.length_nil]; omega) (hL _ ⟨by dsimp only; omega, by dsimp only; omega, ?_, fun t ht => ?_⟩ (by dsimp only; omega))
    · simp only [List.length_append, List.length_cons, List.length_nil]; omega
    · rcases List.mem_append.1 ht with h | h
      · exact h4 t h
      · rw [List.mem_singleton.1 h]; exact ⟨⟨r3.num, by have := r3.len; omega, by have := r3.at0; omega⟩, r4, r5⟩
end Go.Proofs.YtajbipkppngccaaDoor


namespace Go.Proofs.YtajbipkppngccaaDoor
open Go.Sy
set_option linter.unusedVariables false

theorem tx {β : Type} {o : Option β} {x : β} (h : T (fun r => r = x) o) : o = some x := by
  obtain ⟨r, h1, h2⟩ := h; rw [h1, h2]
def hd : List UInt8 → UInt8
  | [] => 0
  | c :: _ => c
theorem hd_drop (b : List UInt8) (n : Nat) : hd (b.drop n) = (b[n]?).getD 0 := by
  rcases Nat.lt_or_ge n b.length with h | h
  · rw [List.drop_eq_getElem_cons h, List.getElem?_eq_getElem h]; rfl
  · rw [List.drop_eq_nil_of_le h, List.getElem?_eq_none h]; rfl
theorem dropc {b : List UInt8} {n : Nat} {y : UInt8} (h : b[n]? = some y) : b.drop n = y :: b.drop (n + 1) := by
  obtain ⟨h1, h2⟩ := List.getElem?_eq_some_iff.1 h
  rw [List.drop_eq_getElem_cons h1, h2]
theorem at_eq (s : Str) (i : Int) (h : 0 ≤ i) : r04_at s i = some (hd (s.b.drop i.toNat)) := by
  obtain ⟨r, h1, h2⟩ := at_tot s i
  rw [h1, h2, if_pos h, hd_drop]

/-! ### White -/
inductive Wst where
  | out
  | start
  | ins
  | fin
def isWh (c : UInt8) : Bool := decide (c = 32) || decide (c = 9) || decide (c = 10) || decide (c = 13)
def wh : Wst → List UInt8 → List UInt8
  | _, [] => []
  | .out, c :: r => bif isWh c then wh .out r else bif decide (c = 45) && decide (hd r = 45) then wh .start r else c :: r
  | .start, _ :: r => wh .ins r
  | .ins, c :: r => bif decide (c = 10) then wh .out r else bif decide (c = 45) && decide (hd r = 45) then wh .fin r else wh .ins r
  | .fin, _ :: r => wh .out r
theorem hd_ne {b : List UInt8} {n : Nat} (h : hd (b.drop n) = 45) : n < b.length := by
  rcases Nat.lt_or_ge n b.length with h2 | h2
  · exact h2
  · rw [List.drop_eq_nil_of_le h2] at h; cases h
theorem skip1 {b : List UInt8} {n : Nat} (h : n < b.length) : ∃ c, b.drop n = c :: b.drop (n + 1) := ⟨_, List.drop_eq_getElem_cons h⟩
theorem white_eq (s : Str) (i : Int) (h0 : 0 ≤ i) (h1 : i ≤ s.b.length) (hl : s.b.length ≤ 1000000) : r04_white s i = some ((s.b.length : Int) - ((wh .out (s.b.drop i.toNat)).length : Int)) := by
  refine tx ?_
  unfold r04_white
  refine T.lp (fun k => i ≤ k ∧ k ≤ s.b.length ∧ wh .out (s.b.drop k.toNat) = wh .out (s.b.drop i.toNat)) (fun k => (s.b.length - k).toNat) ⟨Int.le_refl _, h1, rfl⟩ (by omega) fun L k ⟨k1, k2, k3⟩ hL => ?_
  rw [← k3] at hL ⊢
  refine T.br (fun hb => ?_) (fun hb => T.some ?_)
  rotate_left
  · have hb := of_decide_eq_false hb
    rw [List.drop_eq_nil_of_le (by omega)]
    simp only [wh, List.length_nil]; omega
  have hb := of_decide_eq_true hb
  refine T.get (by omega) hb fun y hy => ?_
  have e := dropc hy
  have e1 : (k + 1).toNat = k.toNat + 1 := by omega
  refine T.jp (fun q => q = (decide (y = 32) || decide (y = 9))) (fun J h => T.br (fun h2 => h _ (by rw [h2]; rfl)) fun h2 => T.get (by omega) hb fun y' hy' => h _ (by rw [hy] at hy'; cases hy'; rw [h2]; rfl)) fun q hq => ?_
  refine T.jp (fun q' => q' = (q || decide (y = 10))) (fun J h => T.br (fun h2 => h _ (by rw [h2]; rfl)) fun h2 => T.get (by omega) hb fun y' hy' => h _ (by rw [hy] at hy'; cases hy'; rw [h2]; rfl)) fun q' hq' => ?_
  refine T.jp (fun q2 => q2 = (q' || decide (y = 13))) (fun J h => T.br (fun h2 => h _ (by rw [h2]; rfl)) fun h2 => T.get (by omega) hb fun y' hy' => h _ (by rw [hy] at hy'; cases hy'; rw [h2]; rfl)) fun q2 hq2 => ?_
  have hw : q2 = isWh y := by rw [hq2, hq', hq]; rfl
  refine T.br (fun h2 => T.ck (by omega) ?_) fun h2 => ?_
  · refine hL _ ⟨by omega, by omega, ?_⟩ (by omega)
    rw [e1, e]; simp only [wh, ← hw, h2, cond_true]
  refine T.get (by omega) hb fun y' hy' => ?_
  rw [hy] at hy'; cases hy'
  refine T.jp (fun q => q = (decide (y = 45) && decide (hd (s.b.drop (k.toNat + 1)) = 45))) (fun J h => T.br (fun h3 => T.ck (by omega) (T.eq (at_eq s _ (by omega)) (h _ (by rw [h3, e1]; rfl)))) fun h3 => h _ (by rw [h3]; rfl)) fun q3 hq3 => ?_
  refine T.br (fun h3 => T.ck (by omega) ?_) (fun h3 => T.some ?_)
  rotate_left
  · rw [e]; simp only [wh, ← hw, h2, cond_false, ← hq3, h3, List.length_cons, List.length_drop]; omega
  have h45 : hd (s.b.drop (k.toNat + 1)) = 45 := by rw [hq3] at h3; simpa using (Bool.and_eq_true_iff.1 h3).2
  have hlt := hd_ne h45
  obtain ⟨c, ec⟩ := skip1 hlt
  have e2 : (k + 2).toNat = k.toNat + 1 + 1 := by omega
  have hins : wh .out (s.b.drop k.toNat) = wh .ins (s.b.drop (k + 2).toNat) := by
    rw [e, e2]; simp only [wh, ← hw, h2, cond_false, ← hq3, h3, cond_true]; rw [ec]; simp only [wh]
  refine T.lp (fun j => k + 2 ≤ j ∧ j ≤ s.b.length ∧ wh .out (s.b.drop k.toNat) = wh .ins (s.b.drop j.toNat)) (fun j => (s.b.length - j).toNat) ⟨Int.le_refl _, by omega, hins⟩ (by omega) fun L2 j ⟨j1, j2, j3⟩ hL2 => ?_
  refine T.jp (fun q => (q = true → j < s.b.length ∧ ∀ y, s.b[j.toNat]? = some y → y ≠ 10) ∧ (q = false → wh .out (s.b.drop j.toNat) = wh .ins (s.b.drop j.toNat))) (fun J h => T.br (fun h4 => ?_) fun h4 => h _ ⟨(fun h => by cases h), fun _ => ?_⟩) fun q hq => ?_
  · have h4 := of_decide_eq_true h4
    refine T.get (by omega) h4 fun y2 hy2 => h _ ⟨fun h5 => ⟨h4, fun y3 hy3 => ?_⟩, fun h5 => ?_⟩
    · rw [hy2] at hy3; cases hy3; simpa using h5
    · have h6 : y2 = 10 := by simpa using h5
      subst h6
      rw [dropc hy2]
      simp [wh, isWh]
  · have h4 := of_decide_eq_false h4
    rw [List.drop_eq_nil_of_le (by omega)]; simp only [wh]
  refine T.br (fun h4 => ?_) (fun h4 => hL _ ⟨by omega, j2, by rw [hq.2 h4, j3]⟩ (by omega))
  obtain ⟨hj, hne⟩ := hq.1 h4
  refine T.get (by omega) hj fun y2 hy2 => ?_
  have hy10 := hne y2 hy2
  have f := dropc hy2
  have f1 : (j + 1).toNat = j.toNat + 1 := by omega
  refine T.jp (fun q => q = (decide (y2 = 45) && decide (hd (s.b.drop (j.toNat + 1)) = 45))) (fun J h => T.br (fun h3 => T.ck (by omega) (T.eq (at_eq s _ (by omega)) (h _ (by rw [h3, f1]; rfl)))) fun h3 => h _ (by rw [h3]; rfl)) fun q4 hq4 => ?_
  refine T.br (fun h5 => T.ck (by omega) ?_) (fun h5 => T.ck (by omega) (hL2 _ ⟨by omega, by omega, ?_⟩ (by omega)))
  · have h46 : hd (s.b.drop (j.toNat + 1)) = 45 := by rw [hq4] at h5; simpa using (Bool.and_eq_true_iff.1 h5).2
    have hlt2 := hd_ne h46
    obtain ⟨c2, ec2⟩ := skip1 hlt2
    have f2 : (j + 2).toNat = j.toNat + 1 + 1 := by omega
    refine hL _ ⟨by omega, by omega, ?_⟩ (by omega)
    rw [j3, f, f2]; simp only [wh, decide_eq_false hy10, cond_false, ← hq4, h5, cond_true]; rw [ec2]; simp only [wh]
  · rw [j3, f, f1]; simp only [wh, decide_eq_false hy10, cond_false, ← hq4, h5]

/-! ### Names -/
def inName (c : UInt8) (r : List UInt8) : Bool := isLetter c || isDigit c || (decide (c = 45) && !decide (hd r = 45))
def nm : List UInt8 → Nat
  | [] => 0
  | c :: r => bif inName c r then nm r + 1 else 0
theorem nm_cons (c : UInt8) (r : List UInt8) : nm (c :: r) = bif inName c r then nm r + 1 else 0 := rfl
theorem nm_le : ∀ b : List UInt8, nm b ≤ b.length
  | [] => Nat.le_refl _
  | c :: r => by
    have := nm_le r
    unfold nm
    cases inName c r <;> simp <;> omega
/-- May what stands ahead be a name? -/
def nmBad (b : List UInt8) : Bool := decide ((b.take (nm b)).getLast? = some 45) || decide (60 < nm b)
theorem last_take {b : List UInt8} {n : Nat} {y : UInt8} (hn : 0 < n) (hy : b[n - 1]? = some y) : (b.take n).getLast? = some y := by
  have hlt := (List.getElem?_eq_some_iff.1 hy).1
  rw [List.getLast?_eq_getElem?, List.length_take, List.getElem?_take, Nat.min_eq_left (by omega), if_pos (by omega), hy]
theorem name_eq (s : Str) (i : Int) (h0 : 0 ≤ i) (h1 : i < s.b.length) (hl : s.b.length ≤ 1000000) (hc : isLetter (hd (s.b.drop i.toNat)) = true) :
    r04_name s i = some (bif nmBad (s.b.drop i.toNat) then -1 else i + nm (s.b.drop i.toNat)) := by
  refine tx ?_
  unfold r04_name
  have hi0 : 0 < nm (s.b.drop i.toNat) := by
    obtain ⟨c, ec⟩ := skip1 (b := s.b) (n := i.toNat) (by omega)
    rw [ec] at hc ⊢
    unfold nm inName
    simp only [hd] at hc
    rw [hc]; simp
  refine T.lp (fun k => i ≤ k ∧ k ≤ s.b.length ∧ (nm (s.b.drop i.toNat) : Int) = k - i + nm (s.b.drop k.toNat)) (fun k => (s.b.length - k).toNat) ⟨Int.le_refl _, by omega, by omega⟩ (by omega) fun L k ⟨k1, k2, k3⟩ hL => ?_
  refine T.jp (fun q => (q = true → k < s.b.length ∧ (nm (s.b.drop i.toNat) : Int) = k + 1 - i + nm (s.b.drop (k + 1).toNat)) ∧ (q = false → (nm (s.b.drop i.toNat) : Int) = k - i)) (fun J h => ?_) fun q hq => ?_
  · refine T.br (fun hb => ?_) (fun hb => h _ ⟨(fun h => by cases h), fun _ => by
      have := of_decide_eq_false hb
      rw [List.drop_eq_nil_of_le (as := s.b) (i := k.toNat) (by omega)] at k3
      simpa [nm] using k3⟩)
    have hb := of_decide_eq_true hb
    refine T.get (by omega) hb fun y hy => ?_
    have e := dropc hy
    have e1 : (k + 1).toNat = k.toNat + 1 := by omega
    refine T.eq (letter_eq y) ?_
    refine T.jp (fun q => q = (isLetter y || isDigit y)) (fun J2 h2 => T.br (fun h3 => h2 _ (by rw [h3]; rfl)) fun h3 => T.get (by omega) hb fun y2 hy2 => T.eq (digit_eq y2) (h2 _ (by rw [hy] at hy2; cases hy2; rw [h3]; rfl))) fun q hq => ?_
    refine T.jp (fun q2 => q2 = inName y (s.b.drop (k.toNat + 1))) (fun J2 h2 => T.br (fun h3 => h2 _ (by unfold inName; rw [← hq, h3]; rfl)) fun h3 => T.get (by omega) hb fun y2 hy2 => ?_) fun q2 hq2 => ?_
    · rw [hy] at hy2; cases hy2
      refine T.jp (fun q3 => q3 = (decide (y = 45) && !decide (hd (s.b.drop (k.toNat + 1)) = 45))) (fun J3 h4 => T.br (fun h5 => T.ck (by omega) (T.eq (at_eq s _ (by omega)) (h4 _ (by rw [h5, e1]; rfl)))) fun h5 => h4 _ (by rw [h5]; rfl)) fun q3 hq3 => h2 _ ?_
      unfold inName; rw [← hq, h3, hq3]; rfl
    · rw [e, nm_cons] at k3
      refine h _ ⟨fun h3 => ⟨hb, ?_⟩, fun h3 => ?_⟩
      · rw [← hq2, h3, cond_true] at k3
        rw [e1]; omega
      · rw [← hq2, h3, cond_false] at k3
        omega
  refine T.br (fun hb => T.ck (by have := hq.1 hb; omega) (hL _ ⟨by omega, by have := hq.1 hb; omega, (hq.1 hb).2⟩ (by have := hq.1 hb; omega))) fun hb => ?_
  have hn := hq.2 hb
  refine T.ck (by omega) (T.get (by omega) (by omega) fun y hy => ?_)
  have hlast : ((s.b.drop i.toNat).take (nm (s.b.drop i.toNat))).getLast? = some y := by
    refine last_take hi0 ?_
    rw [List.getElem?_drop]
    have : i.toNat + (nm (s.b.drop i.toNat) - 1) = (k - 1).toNat := by omega
    rw [this, hy]
  refine T.jp (fun q => q = nmBad (s.b.drop i.toNat)) (fun J h => T.br (fun h3 => h _ ?_) fun h3 => T.ck (by omega) (h _ ?_)) fun q hq => ?_
  · unfold nmBad
    rw [hlast]
    have := of_decide_eq_true h3
    subst this; rfl
  · unfold nmBad
    rw [hlast]
    have := of_decide_eq_false h3
    have e : decide (some y = some (45 : UInt8)) = false := by simpa using this
    rw [e, Bool.false_or, decide_eq_decide]
    omega
  · rw [← hq]
    exact T.br (fun h3 => T.some (by rw [h3]; rfl)) fun h3 => T.some (by rw [h3, cond_false]; omega)
end Go.Proofs.YtajbipkppngccaaDoor


namespace Go.Proofs.YtajbipkppngccaaDoor
open Go.Sy
set_option linter.unusedVariables false

theorem seg {b : List UInt8} {i k : Nat} : (b.take k).drop i = (b.drop i).take (k - i) := by rw [List.drop_take]
theorem get_drop {b : List UInt8} {i n : Nat} {y : UInt8} (h : b[i + n]? = some y) : (b.drop i)[n]? = some y := by rw [List.getElem?_drop, h]
theorem take_snoc {b : List UInt8} {n : Nat} {y : UInt8} (h : b[n]? = some y) : b.take (n + 1) = b.take n ++ [y] := by rw [List.take_add_one, h]; rfl

/-! ### Numbers -/
def dg : List UInt8 → Nat
  | [] => 0
  | c :: r => bif isDigit c then dg r + 1 else 0
theorem dg_cons (c : UInt8) (r : List UInt8) : dg (c :: r) = bif isDigit c then dg r + 1 else 0 := rfl
theorem dg_le : ∀ b : List UInt8, dg b ≤ b.length
  | [] => Nat.le_refl _
  | c :: r => by
    have := dg_le r
    rw [dg_cons]
    cases isDigit c <;> simp <;> omega
/-- Is what stands there, behind a sign perhaps, no number? -/
def numBad (m : Bool) (d : List UInt8) : Bool :=
  decide (dg d < 1) || decide (19 < dg d) || (decide (1 < dg d) && decide (hd d = 48)) || (m && decide (hd d = 48)) || isLetter (hd (d.drop (dg d))) ||
    decide (9223372036854775808 < uval (d.take (dg d))) || (!m && decide (uval (d.take (dg d)) = 9223372036854775808))
def numLen (b : List UInt8) : Option Nat :=
  bif decide (hd b = 45) then bif numBad true (b.drop 1) then none else some (dg (b.drop 1) + 1)
  else bif numBad false b then none else some (dg b)
theorem number_eq (s : Str) (i : Int) (h0 : 0 ≤ i) (h1 : i < s.b.length) (hl : s.b.length ≤ 1000000) :
    r04_number s i = some (match numLen (s.b.drop i.toNat) with
      | none => -1
      | some n => i + (n : Int)) := by
  refine tx ?_
  unfold r04_number
  refine T.get h0 h1 fun y1 hy1 => ?_
  have hd1 : hd (s.b.drop i.toNat) = y1 := by rw [dropc hy1]; rfl
  refine T.jp (fun f => i ≤ f ∧ f ≤ i + 1 ∧ numLen (s.b.drop i.toNat) = (bif numBad (decide (y1 = 45)) (s.b.drop f.toNat) then none else some (dg (s.b.drop f.toNat) + (f - i).toNat))) (fun J h => T.br (fun hb => T.ck (by omega) (h _ ⟨by omega, by omega, ?_⟩)) fun hb => h _ ⟨by omega, by omega, ?_⟩) fun f ⟨f1, f2, f3⟩ => ?_
  · have e1 : (i + 1).toNat = i.toNat + 1 := by omega
    have e2 : (i + 1 - i).toNat = 1 := by omega
    unfold numLen
    rw [hd1, hb, cond_true, e1, e2, List.drop_drop]
  · have e2 : (i - i).toNat = 0 := by omega
    unfold numLen
    rw [hd1, hb, cond_false, e2, Nat.add_zero]
  have hfl : f ≤ s.b.length := by omega
  have hgoal : ∀ k : Int, (dg (s.b.drop f.toNat) : Int) = k - f → (match numLen (s.b.drop i.toNat) with
      | none => -1
      | some n => i + (n : Int)) = bif numBad (decide (y1 = 45)) (s.b.drop f.toNat) then -1 else k := by
    intro k hk
    rw [f3]
    cases numBad (decide (y1 = 45)) (s.b.drop f.toNat) with
    | true => rfl
    | false =>
      show i + ((dg (s.b.drop f.toNat) + (f - i).toNat : Nat) : Int) = k
      omega
  refine T.lp (ι := Int × UInt64) (fun q => f ≤ q.1 ∧ q.1 ≤ s.b.length ∧ (dg (s.b.drop f.toNat) : Int) = q.1 - f + dg (s.b.drop q.1.toNat) ∧ (q.1 - f ≤ 19 → q.2 = uval ((s.b.drop f.toNat).take (q.1.toNat - f.toNat)))) (fun q => (s.b.length - q.1).toNat)
    ⟨Int.le_refl _, hfl, by dsimp only; omega, fun _ => by rw [Nat.sub_self]; rfl⟩ (by simp only; omega) fun L q hq hL => ?_
  obtain ⟨k, v⟩ := q
  obtain ⟨hq1, hq2, hq3, hq4⟩ := hq
  simp only at hq1 hq2 hq3 hq4 ⊢
  refine T.jp (fun b => (b = true → k < s.b.length ∧ (dg (s.b.drop f.toNat) : Int) = k + 1 - f + dg (s.b.drop (k + 1).toNat)) ∧ (b = false → (dg (s.b.drop f.toNat) : Int) = k - f)) (fun J h => ?_) fun b hb => ?_
  · refine T.br (fun h2 => ?_) fun h2 => h _ ⟨(fun h => by cases h), fun _ => ?_⟩
    · have h2 := of_decide_eq_true h2
      have ek : (k + 1).toNat = k.toNat + 1 := by omega
      refine T.get (by omega) h2 fun y hy => T.eq (digit_eq y) (h _ ?_)
      rw [dropc hy, dg_cons] at hq3
      rw [ek]
      refine ⟨fun hd => ⟨h2, ?_⟩, fun hd => ?_⟩
      · rw [hd, cond_true] at hq3; omega
      · rw [hd, cond_false] at hq3; omega
    · have h2 := of_decide_eq_false h2
      rw [List.drop_eq_nil_of_le (as := s.b) (i := k.toNat) (by omega)] at hq3
      simpa [dg] using hq3
  refine T.br (fun h2 => ?_) fun h2 => ?_
  · obtain ⟨hk, hd⟩ := hb.1 h2
    obtain ⟨y, hy⟩ : ∃ y, s.b[k.toNat]? = some y := ⟨_, List.getElem?_eq_getElem (by omega)⟩
    have hsn := take_snoc (b := s.b.drop f.toNat) (n := k.toNat - f.toNat) (y := y) (get_drop (by rw [show f.toNat + (k.toNat - f.toNat) = k.toNat by omega, hy]))
    have hk1 : (k + 1).toNat - f.toNat = k.toNat - f.toNat + 1 := by omega
    refine T.ck (by omega) (T.jp (fun u => k - f < 19 → u = 10 * v + (y - 48).toUInt64) (fun J h => T.br (fun _ => ?_) fun h3 => h _ fun h4 => by have := of_decide_eq_false h3; omega) fun u hu => T.ck (by omega) (hL _ ?_ (by simp only; omega)))
    · exact T.get (by omega) hk fun y' hy' => h _ fun _ => by rw [hy] at hy'; cases hy'; rfl
    · refine ⟨by simp only; omega, by simp only; omega, hd, fun h19 => ?_⟩
      simp only at h19 ⊢
      rw [hk1, hsn, uval_snoc, hu (by omega), hq4 (by omega)]
  have hn := hb.2 h2
  rw [hgoal k hn]
  refine T.ck (by omega) ?_
  have hdn : dg (s.b.drop f.toNat) = k.toNat - f.toNat := by omega
  have hyf : 1 ≤ k - f → ∀ y, s.b[f.toNat]? = some y → hd (s.b.drop f.toNat) = y := fun _ y hy => by rw [dropc hy]; rfl
  refine T.jp (fun b => b = (decide (dg (s.b.drop f.toNat) < 1) || decide (19 < dg (s.b.drop f.toNat)))) (fun J h => T.br (fun h3 => h _ ?_) fun h3 => h _ ?_) fun b1 hb1 => ?_
  · have := of_decide_eq_true h3; rw [decide_eq_true (by omega)]; rfl
  · have := of_decide_eq_false h3; rw [decide_eq_false (show ¬ dg (s.b.drop f.toNat) < 1 by omega), Bool.false_or, decide_eq_decide]; omega
  refine T.jp (fun b => b = (b1 || (decide (1 < dg (s.b.drop f.toNat)) && decide (hd (s.b.drop f.toNat) = 48)))) (fun J h => T.br (fun h3 => h _ (by rw [h3]; rfl)) fun h3 => ?_) fun b2 hb2 => ?_
  · refine T.jp (fun b => b = (decide (1 < dg (s.b.drop f.toNat)) && decide (hd (s.b.drop f.toNat) = 48))) (fun J3 h4 => T.br (fun h5 => ?_) fun h5 => h4 _ ?_) fun b hb => h _ (by rw [h3, hb]; rfl)
    · have h5 := of_decide_eq_true h5
      exact T.get (by omega) (by omega) fun y hy => h4 _ (by rw [decide_eq_true (show 1 < dg (s.b.drop f.toNat) by omega), hyf (by omega) y hy]; rfl)
    · have h5 := of_decide_eq_false h5
      rw [decide_eq_false (show ¬ 1 < dg (s.b.drop f.toNat) by omega)]; rfl
  refine T.jp (fun b => b = (b2 || (decide (y1 = 45) && decide (hd (s.b.drop f.toNat) = 48)))) (fun J h => T.br (fun h3 => h _ (by rw [h3]; rfl)) fun h3 => ?_) fun b3 hb3 => ?_
  · have hge : 1 ≤ k - f := by
      have e1 := (Bool.or_eq_false_iff.1 (hb2.symm.trans h3)).1
      have := of_decide_eq_false (Bool.or_eq_false_iff.1 (hb1.symm.trans e1)).1
      omega
    refine T.jp (fun b => b = (decide (y1 = 45) && decide (hd (s.b.drop f.toNat) = 48))) (fun J3 h4 => T.br (fun h5 => ?_) fun h5 => h4 _ (by rw [h5]; rfl)) fun b hb => h _ (by rw [h3, hb]; rfl)
    exact T.get (by omega) (by omega) fun y hy => h4 _ (by rw [h5, hyf hge y hy]; rfl)
  have hat : r04_at s k = some (hd ((s.b.drop f.toNat).drop (dg (s.b.drop f.toNat)))) := by
    rw [at_eq s k (by omega), List.drop_drop, hdn]
    congr 3; omega
  refine T.jp (fun b => b = (b3 || isLetter (hd ((s.b.drop f.toNat).drop (dg (s.b.drop f.toNat)))))) (fun J h => T.br (fun h3 => h _ (by rw [h3]; rfl)) fun h3 => T.eq hat (T.eq (letter_eq _) (h _ (by rw [h3]; rfl)))) fun b4 hb4 => ?_
  have hv : b4 = false → v = uval ((s.b.drop f.toNat).take (dg (s.b.drop f.toNat))) := fun h => by
    have e3 := (Bool.or_eq_false_iff.1 (hb4.symm.trans h)).1
    have e2 := (Bool.or_eq_false_iff.1 (hb3.symm.trans e3)).1
    have e1 := (Bool.or_eq_false_iff.1 (hb2.symm.trans e2)).1
    have := of_decide_eq_false (Bool.or_eq_false_iff.1 (hb1.symm.trans e1)).2
    rw [hdn]; exact hq4 (by omega)
  refine T.jp (fun b => b = (b4 || decide (9223372036854775808 < uval ((s.b.drop f.toNat).take (dg (s.b.drop f.toNat)))))) (fun J h => T.br (fun h3 => h _ (by rw [h3]; rfl)) fun h3 => h _ (by rw [h3, hv h3]; rfl)) fun b5 hb5 => ?_
  refine T.jp (fun b => b = (b5 || (!decide (y1 = 45) && decide (uval ((s.b.drop f.toNat).take (dg (s.b.drop f.toNat))) = 9223372036854775808)))) (fun J h => T.br (fun h3 => h _ (by rw [h3]; rfl)) fun h3 => ?_) fun b6 hb6 => ?_
  · have e4 := (Bool.or_eq_false_iff.1 (hb5.symm.trans h3)).1
    refine T.jp (fun b => b = (!decide (y1 = 45) && decide (uval ((s.b.drop f.toNat).take (dg (s.b.drop f.toNat))) = 9223372036854775808))) (fun J3 h4 => T.br (fun h5 => h4 _ (by rw [h5, hv e4]; rfl)) fun h5 => h4 _ (by rw [h5]; rfl)) fun b hb => h _ (by rw [h3, hb]; rfl)
  have hall : b6 = numBad (decide (y1 = 45)) (s.b.drop f.toNat) := by
    rw [hb6, hb5, hb4, hb3, hb2, hb1]; rfl
  rw [← hall]
  exact T.br (fun h3 => T.some (by rw [h3]; rfl)) fun h3 => T.some (by rw [h3]; rfl)

/-! ### Hexes -/
def isHex (c : UInt8) : Bool := isDigit c || (decide (65 ≤ c) && decide (c ≤ 70))
def hx : List UInt8 → Nat
  | [] => 0
  | c :: r => bif isHex c then hx r + 1 else 0
theorem hx_cons (c : UInt8) (r : List UInt8) : hx (c :: r) = bif isHex c then hx r + 1 else 0 := rfl
theorem hx_le : ∀ b : List UInt8, hx b ≤ b.length
  | [] => Nat.le_refl _
  | c :: r => by
    have := hx_le r
    rw [hx_cons]
    cases isHex c <;> simp <;> omega
def hexBad (r : List UInt8) : Bool := !decide (hx r % 2 = 0) || !decide (hd (r.drop (hx r)) = 39) || !decide (hd (r.drop (hx r + 1)) = 72)
theorem hd_lt {b : List UInt8} {n : Nat} (h : hd (b.drop n) ≠ 0) : n < b.length := by
  rcases Nat.lt_or_ge n b.length with h2 | h2
  · exact h2
  · rw [List.drop_eq_nil_of_le h2] at h; exact absurd rfl h
theorem hex_eq (s : Str) (i : Int) (h0 : 0 ≤ i) (h1 : i < s.b.length) (hl : s.b.length ≤ 1000000) :
    r04_hex s i = some (bif hexBad (s.b.drop (i.toNat + 1)) then (-1, ⟨[]⟩) else (i + 1 + (hx (s.b.drop (i.toNat + 1)) : Int) + 2, ⟨(s.b.drop (i.toNat + 1)).take (hx (s.b.drop (i.toNat + 1)))⟩)) := by
  refine tx ?_
  unfold r04_hex
  have e0 : (i + 1).toNat = i.toNat + 1 := by omega
  refine T.ck (by omega) (T.lp (fun (k : Int) => i + 1 ≤ k ∧ k ≤ (s.b.length : Int) ∧ (hx (s.b.drop (i.toNat + 1)) : Int) = k - (i + 1) + hx (s.b.drop k.toNat)) (fun (k : Int) => ((s.b.length : Int) - k).toNat) ⟨Int.le_refl _, by omega, by rw [e0]; omega⟩ (by omega) fun L k ⟨k1, k2, k3⟩ hL => ?_)
  refine T.jp (fun b => (b = true → k < s.b.length ∧ (hx (s.b.drop (i.toNat + 1)) : Int) = k + 1 - (i + 1) + hx (s.b.drop (k + 1).toNat)) ∧ (b = false → (hx (s.b.drop (i.toNat + 1)) : Int) = k - (i + 1))) (fun J h => T.br (fun h2 => ?_) fun h2 => h _ ⟨(fun h => by cases h), fun _ => ?_⟩) fun b hb => ?_
  · have h2 := of_decide_eq_true h2
    refine T.get (by omega) h2 fun y hy => T.eq (digit_eq y) ?_
    have ek : (k + 1).toNat = k.toNat + 1 := by omega
    refine T.jp (fun q => q = isHex y) (fun J2 h3 => T.br (fun h4 => h3 _ (by unfold isHex; rw [h4]; rfl)) fun h4 => T.get (by omega) h2 fun y' hy' => ?_) fun q hq => h _ ?_
    · rw [hy] at hy'; cases hy'
      refine T.jp (fun q => q = (decide (65 ≤ y) && decide (y ≤ 70))) (fun J4 h5 => T.br (fun h6 => T.get (by omega) h2 fun y' hy' => h5 _ (by rw [hy] at hy'; cases hy'; rw [h6]; rfl)) fun h6 => h5 _ (by rw [h6]; rfl)) fun q hq => h3 _ (by unfold isHex; rw [h4, hq]; rfl)
    · subst hq
      rw [dropc hy, hx_cons] at k3
      rw [ek]
      refine ⟨fun hd => ⟨h2, ?_⟩, fun hd => ?_⟩
      · rw [hd, cond_true] at k3; omega
      · rw [hd, cond_false] at k3; omega
  · have h2 := of_decide_eq_false h2
    rw [List.drop_eq_nil_of_le (as := s.b) (i := k.toNat) (by omega)] at k3
    simpa [hx] using k3
  refine T.br (fun h2 => T.ck (by have := hb.1 h2; omega) (hL _ ⟨by have := hb.1 h2; omega, by have := hb.1 h2; omega, (hb.1 h2).2⟩ (by have := hb.1 h2; omega))) fun h2 => ?_
  have hn := hb.2 h2
  have hdk : (s.b.drop (i.toNat + 1)).drop (hx (s.b.drop (i.toNat + 1))) = s.b.drop k.toNat := by rw [List.drop_drop]; congr 1; omega
  have hdk1 : (s.b.drop (i.toNat + 1)).drop (hx (s.b.drop (i.toNat + 1)) + 1) = s.b.drop (k + 1).toNat := by rw [List.drop_drop]; congr 1; omega
  refine T.ck (by omega) (T.asr rfl ?_)
  have hmod : decide ((k - (i + 1)).tmod 2 = 0) = decide (hx (s.b.drop (i.toNat + 1)) % 2 = 0) := by
    rw [decide_eq_decide, Int.tmod_eq_emod_of_nonneg (by omega)]
    omega
  refine T.jp (fun b => b = (!decide (hx (s.b.drop (i.toNat + 1)) % 2 = 0) || !decide (hd (s.b.drop k.toNat) = 39))) (fun J h => T.br (fun h3 => h _ (by rw [← hmod, h3]; rfl)) fun h3 => T.eq (at_eq s k (by omega)) (h _ (by rw [← hmod, h3]; rfl))) fun b1 hb1 => ?_
  refine T.jp (fun b => b = hexBad (s.b.drop (i.toNat + 1))) (fun J h => T.br (fun h3 => h _ ?_) fun h3 => T.ck (by omega) (T.eq (at_eq s (k + 1) (by omega)) (h _ ?_))) fun b2 hb2 => ?_
  · unfold hexBad; rw [hdk, ← hb1, h3]; rfl
  · unfold hexBad; rw [hdk, hdk1, ← hb1, h3]; rfl
  rw [← hb2]
  refine T.br (fun h3 => T.some (by rw [h3]; rfl)) fun h3 => ?_
  have hlt : k + 1 < s.b.length := by
    rw [h3] at hb2
    unfold hexBad at hb2
    have := (Bool.or_eq_false_iff.1 hb2.symm).2
    have h72 : hd (s.b.drop (k + 1).toNat) = 72 := by rw [hdk1] at this; simpa using this
    have := hd_lt (b := s.b) (n := (k + 1).toNat) (by rw [h72]; decide)
    omega
  refine T.ck (by omega) (T.asd (by omega) (T.some ?_))
  rw [h3, cond_false, seg, e0]
  have e5 : k.toNat - (i.toNat + 1) = hx (s.b.drop (i.toNat + 1)) := by omega
  rw [e5, hn]
  have e6 : i + 1 + (k - (i + 1)) + 2 = k + 2 := by omega
  rw [e6]

/-! ### Strings -/
def qd : Bool → List UInt8 → List UInt8 → Option (List UInt8 × List UInt8)
  | _, [], _ => none
  | true, _ :: r, acc => qd false r (acc ++ [34])
  | false, c :: r, acc => bif decide (c = 34) then bif decide (hd r = 34) then qd true r acc else bif Lib.validD acc then some (acc, r) else none else qd false r (acc ++ [c])
theorem quoted_eq (s : Str) (i : Int) (h0 : 0 ≤ i) (h1 : i < s.b.length) (hl : s.b.length ≤ 1000000) :
    r04_quoted s i = some (match qd false (s.b.drop (i.toNat + 1)) [] with
      | none => (-1, ⟨[]⟩)
      | some (t, r) => ((s.b.length : Int) - (r.length : Int), ⟨t⟩)) := by
  refine tx ?_
  unfold r04_quoted
  have e0 : (i + 1).toNat = i.toNat + 1 := by omega
  refine T.ck (by omega) (T.lp (ι := Int × Str) (fun q => i + 1 ≤ q.1 ∧ q.1 ≤ s.b.length + 1 ∧ (q.2.b.length : Int) < q.1 ∧ qd false (s.b.drop (i.toNat + 1)) [] = qd false (s.b.drop q.1.toNat) q.2.b) (fun q => (s.b.length + 1 - q.1).toNat) ⟨Int.le_refl _, by dsimp only; omega, by dsimp only; simp only [List.length_nil]; omega, by dsimp only; rw [e0]⟩ (by dsimp only; omega) fun L q hq hL => ?_)
  obtain ⟨k, o⟩ := q
  obtain ⟨hq1, hq2, hq3, hq4⟩ := hq
  simp only at hq1 hq2 hq3 hq4 ⊢
  rw [hq4] at hL ⊢
  refine T.br (fun h2 => ?_) fun h2 => T.some ?_
  rotate_left
  · have h2 := of_decide_eq_false h2
    rw [List.drop_eq_nil_of_le (by omega)]; simp only [qd]
  have h2 := of_decide_eq_true h2
  have ek : (k + 1).toNat = k.toNat + 1 := by omega
  refine T.jp (fun (q : Int × Str) => k ≤ q.1 ∧ q.1 < (s.b.length : Int) ∧ (q.2.b.length : Int) < q.1 + 1 ∧ qd false (s.b.drop k.toNat) o.b = qd false (s.b.drop (q.1 + 1).toNat) q.2.b) (fun J h => ?_) fun q hq => ?_
  · refine T.get (by omega) h2 fun y hy => T.br (fun h3 => ?_) fun h3 => ?_
    · have h34 : decide (y = 34) = false := by simpa using h3
      have ey : (s.b.take (k + 1).toNat).drop k.toNat = [y] := by
        rw [seg, ek, dropc hy, show k.toNat + 1 - k.toNat = 1 by omega]; rfl
      refine T.ck (by omega) (T.asd (by omega) (T.abl ?_ (h _ ⟨Int.le_refl _, h2, ?_, ?_⟩)))
      · simp only [List.length_drop, List.length_take]; omega
      · simp only [List.length_append, List.length_drop, List.length_take]; omega
      · dsimp only
        rw [ey, ek]
        conv => lhs; rw [dropc hy]
        simp only [qd, h34, cond_false]
    · have h34 : decide (y = 34) = true := by simpa using h3
      refine T.ck (by omega) (T.eq (at_eq s (k + 1) (by omega)) (T.br (fun h4 => ?_) fun h4 => ?_))
      · have hn : decide (hd (s.b.drop (k.toNat + 1)) = 34) = false := by rw [ek] at h4; simpa using h4
        refine T.eq rfl (T.br (fun h5 => T.some ?_) fun h5 => T.ck (by omega) (T.some ?_))
        · have h5 : Lib.validD o.b = false := by simpa using h5
          conv => rhs; rw [dropc hy]
          simp only [qd, h34, cond_true, hn, cond_false, h5]
        · have h5 : Lib.validD o.b = true := by simpa using h5
          conv => rhs; rw [dropc hy]
          simp only [qd, h34, cond_true, hn, cond_false, h5, List.length_drop]
          congr 1; omega
      · have hn : hd (s.b.drop (k.toNat + 1)) = 34 := by rw [ek] at h4; simpa using h4
        have hlt := hd_lt (b := s.b) (n := k.toNat + 1) (by rw [hn]; decide)
        obtain ⟨c, ec⟩ := skip1 hlt
        refine T.abl ?_ (T.ck (by omega) (h _ ⟨by dsimp only; omega, by dsimp only; omega, ?_, ?_⟩))
        · simp only [List.length_cons, List.length_nil]; omega
        · simp only [List.length_append, List.length_cons, List.length_nil]; omega
        · dsimp only
          rw [show (k + 1 + 1).toNat = k.toNat + 1 + 1 by omega]
          conv => lhs; rw [dropc hy]
          simp only [qd, h34, cond_true, decide_eq_true hn]
          rw [ec]; simp only [qd]
  · exact T.ck (by omega) (hL _ ⟨by dsimp only; omega, by dsimp only; omega, hq.2.2.1, hq.2.2.2⟩ (by dsimp only; omega))
end Go.Proofs.YtajbipkppngccaaDoor


namespace Go.Proofs.YtajbipkppngccaaDoor
open Go.Sy
set_option linter.unusedVariables false

/-! ### Signs -/
def isPre : List UInt8 → List UInt8 → Bool
  | [], _ => true
  | _ :: _, [] => false
  | p :: ps, c :: r => bif decide (p = c) then isPre ps r else false
def sgF : List (List UInt8) → List UInt8 → Nat
  | [], _ => 0
  | p :: ps, b => bif isPre p b then p.length else sgF ps b
def sgs : List (List UInt8) := [[58, 58, 61], [46, 46, 46], [46, 46], [91, 91], [93, 93], [123], [125], [91], [93], [40], [41], [44], [58]]
def sg (b : List UInt8) : Nat := sgF sgs b
theorem isPre_iff : ∀ (p b : List UInt8), isPre p b = true ↔ p.length ≤ b.length ∧ b.take p.length = p
  | [], b => by simp [isPre]
  | _ :: _, [] => by simp [isPre]
  | p :: ps, c :: r => by
    have ih := isPre_iff ps r
    unfold isPre
    by_cases h : p = c
    · subst h; simp [ih]
    · simp only [decide_eq_false h, cond_false, List.length_cons, List.take_succ_cons, List.cons.injEq]
      exact ⟨(fun h => by cases h), fun h2 => absurd h2.2.1.symm h⟩
theorem sgs_get {k : Nat} {y : Str} (h : ([(Str.mk [58, 58, 61]), (Str.mk [46, 46, 46]), (Str.mk [46, 46]), (Str.mk [91, 91]), (Str.mk [93, 93]), (Str.mk [123]), (Str.mk [125]), (Str.mk [91]), (Str.mk [93]), (Str.mk [40]), (Str.mk [41]), (Str.mk [44]), (Str.mk [58])] : List Str)[k]? = some y) : sgs.drop k = y.b :: sgs.drop (k + 1) := by
  have e : ([(Str.mk [58, 58, 61]), (Str.mk [46, 46, 46]), (Str.mk [46, 46]), (Str.mk [91, 91]), (Str.mk [93, 93]), (Str.mk [123]), (Str.mk [125]), (Str.mk [91]), (Str.mk [93]), (Str.mk [40]), (Str.mk [41]), (Str.mk [44]), (Str.mk [58])] : List Str) = sgs.map Str.mk := rfl
  rw [e, List.getElem?_map] at h
  obtain ⟨z, h1, h2⟩ := Option.map_eq_some_iff.1 h
  subst h2
  obtain ⟨h3, h4⟩ := List.getElem?_eq_some_iff.1 h1
  rw [List.drop_eq_getElem_cons h3, h4]
theorem sign_eq (s : Str) (i : Int) (h0 : 0 ≤ i) (h1 : i < s.b.length) (hl : s.b.length ≤ 1000000) : r04_sign s i = some ((sg (s.b.drop i.toNat) : Nat) : Int) := by
  refine tx ?_
  unfold r04_sign
  refine T.asd (by omega) (T.lp (fun (k : Int) => 0 ≤ k ∧ k ≤ 13 ∧ sgF (sgs.drop k.toNat) (s.b.drop i.toNat) = sg (s.b.drop i.toNat)) (fun (k : Int) => (13 - k).toNat) ⟨Int.le_refl _, by omega, rfl⟩ (by omega) fun L k ⟨k1, k2, k3⟩ hL => ?_)
  have er : (s.b.take ((s.b.length : Int)).toNat).drop i.toNat = s.b.drop i.toNat := by rw [List.take_of_length_le (by omega)]
  refine T.br (fun h2 => ?_) fun h2 => T.some ?_
  rotate_left
  · have h2 : ¬ k < 13 := of_decide_eq_false h2
    have : k = 13 := by omega
    subst this
    rw [← k3]; rfl
  have h2 := of_decide_eq_true h2
  refine T.get k1 h2 fun y hy => ?_
  have hs := sgs_get hy
  rw [hs] at k3
  unfold sgF at k3
  rw [er]
  refine T.jp (fun b => b = isPre y.b (s.b.drop i.toNat)) (fun J h => T.br (fun h3 => ?_) fun h3 => h _ ?_) fun b hb => ?_
  · have h3 := of_decide_eq_true h3
    refine T.asd ⟨Int.le_refl _, by omega, h3⟩ (T.get k1 h2 fun y2 hy2 => h _ ?_)
    rw [hy] at hy2; cases hy2
    have h4 : y.b.length ≤ (s.b.drop i.toNat).length := by simp only [List.length_drop] at h3 ⊢; omega
    rw [Bool.eq_iff_iff, decide_eq_true_eq, isPre_iff]
    constructor
    · intro h5
      refine ⟨h4, ?_⟩
      have := congrArg Str.b h5
      simpa using this
    · intro h5
      obtain ⟨yb⟩ := y
      simp only [Str.mk.injEq]
      simpa using h5.2
  · have h3 := of_decide_eq_false h3
    symm
    rw [Bool.eq_false_iff]
    intro h5
    have := (isPre_iff _ _).1 h5
    simp only [List.length_drop] at h3 this
    omega
  · rw [hb]
    refine T.br (fun h3 => T.some ?_) fun h3 => T.ck (by have h2 : k < 13 := h2; omega) (hL _ ⟨by omega, by have h2 : k < 13 := h2; omega, ?_⟩ (by have h2 : k < 13 := h2; omega))
    · rw [h3, cond_true] at k3; rw [← k3]
    · rw [h3, cond_false] at k3
      have e : (k + 1).toNat = k.toNat + 1 := by omega
      rw [e, k3]

/-! ### Words -/
def wordsL : List Str := [(Str.mk [68, 69, 70, 73, 78, 73, 84, 73, 79, 78, 83]), (Str.mk [69, 88, 80, 76, 73, 67, 73, 84]), (Str.mk [73, 77, 80, 76, 73, 67, 73, 84]), (Str.mk [65, 85, 84, 79, 77, 65, 84, 73, 67]), (Str.mk [84, 65, 71, 83]), (Str.mk [66, 69, 71, 73, 78]), (Str.mk [69, 78, 68]), (Str.mk [66, 79, 79, 76, 69, 65, 78]), (Str.mk [73, 78, 84, 69, 71, 69, 82]), (Str.mk [69, 78, 85, 77, 69, 82, 65, 84, 69, 68]), (Str.mk [78, 85, 76, 76]), (Str.mk [79, 67, 84, 69, 84]), (Str.mk [83, 84, 82, 73, 78, 71]), (Str.mk [85, 84, 70, 56, 83, 116, 114, 105, 110, 103]), (Str.mk [83, 69, 81, 85, 69, 78, 67, 69]), (Str.mk [83, 69, 84]), (Str.mk [67, 72, 79, 73, 67, 69]), (Str.mk [79, 70]), (Str.mk [79, 80, 84, 73, 79, 78, 65, 76]), (Str.mk [68, 69, 70, 65, 85, 76, 84]), (Str.mk [83, 73, 90, 69]), (Str.mk [77, 73, 78]), (Str.mk [77, 65, 88]), (Str.mk [84, 82, 85, 69]), (Str.mk [70, 65, 76, 83, 69])]
def sameB : List UInt8 → List UInt8 → Bool
  | [], [] => true
  | a :: r, b :: t => bif decide (a = b) then sameB r t else false
  | _, _ => false
theorem sameB_iff : ∀ a b : List UInt8, sameB a b = true ↔ a = b
  | [], [] => by simp [sameB]
  | [], _ :: _ => by simp [sameB]
  | _ :: _, [] => by simp [sameB]
  | a :: r, b :: t => by
    have ih := sameB_iff r t
    unfold sameB
    by_cases h : a = b
    · subst h; simp [ih]
    · simp [h]
def isWord (t : List UInt8) : Bool := wordsL.any fun w => sameB w.b t
theorem word_eq (s : Str) : r04_Word s = some (isWord s.b) := by
  refine tx ?_
  unfold r04_Word
  refine T.eq (y := wordsL) rfl (T.cal (in_string_tot wordsL s (by decide)) fun y _ hy => T.some ?_)
  rw [hy, Bool.eq_iff_iff, decide_eq_true_eq]
  unfold isWord
  rw [List.any_eq_true]
  constructor
  · intro h; exact ⟨s, h, (sameB_iff _ _).2 rfl⟩
  · rintro ⟨w, h1, h2⟩
    have := (sameB_iff _ _).1 h2
    obtain ⟨wb⟩ := w; obtain ⟨sb⟩ := s
    simp only at this; subst this; exact h1

/-! ### One sign, all signs -/
/-- The kind and the text of what comes first, and what is left behind it. -/
def oneS (b : List UInt8) : Option (Int × List UInt8 × List UInt8) :=
  let c := hd b
  bif isLetter c then bif nmBad b then none else some (bif isWord (b.take (nm b)) then 5 else bif decide (c ≤ 90) then 1 else 2, b.take (nm b), b.drop (nm b))
  else bif isDigit c || (decide (c = 45) && isDigit (hd (b.drop 1))) then match numLen b with
    | none => none
    | some n => some (3, b.take n, b.drop n)
  else bif decide (c = 39) then bif hexBad (b.drop 1) then none else some (4, (b.drop 1).take (hx (b.drop 1)), (b.drop 1).drop (hx (b.drop 1) + 2))
  else bif decide (c = 34) then match qd false (b.drop 1) [] with
    | none => none
    | some (t, r) => some (7, t, r)
  else bif decide (0 < sg b) then some (6, b.take (sg b), b.drop (sg b)) else none
theorem qd_len : ∀ (b : List UInt8) (f : Bool) (acc t r : List UInt8), qd f b acc = some (t, r) → r.length < b.length
  | [], f, acc, t, r, h => by cases f <;> simp [qd] at h
  | c :: b, true, acc, t, r, h => by
    simp only [qd] at h
    have := qd_len b _ _ _ _ h
    simp; omega
  | c :: b, false, acc, t, r, h => by
    simp only [qd] at h
    by_cases h1 : c = 34
    · simp only [decide_eq_true h1, cond_true] at h
      by_cases h2 : hd b = 34
      · simp only [decide_eq_true h2, cond_true] at h
        have := qd_len b _ _ _ _ h
        simp; omega
      · simp only [decide_eq_false h2, cond_false] at h
        cases hv : Lib.validD acc with
        | true => rw [hv] at h; simp at h; rw [← h.2]; simp
        | false => rw [hv] at h; cases h
    · simp only [decide_eq_false h1, cond_false] at h
      have := qd_len b _ _ _ _ h
      simp; omega
theorem numLen_bd {b : List UInt8} {n : Nat} (h : numLen b = some n) : 0 < n ∧ n ≤ b.length := by
  unfold numLen at h
  by_cases h1 : hd b = 45
  · simp only [decide_eq_true h1, cond_true] at h
    cases hb : numBad true (b.drop 1) with
    | true => rw [hb] at h; cases h
    | false =>
      rw [hb] at h; simp only [cond_false, Option.some.injEq] at h
      have := dg_le (b.drop 1)
      rw [List.length_drop] at this
      have : b ≠ [] := fun e => by rw [e] at h1; cases h1
      have := List.length_pos_iff.2 this
      omega
  · simp only [decide_eq_false h1, cond_false] at h
    cases hb : numBad false b with
    | true => rw [hb] at h; cases h
    | false =>
      rw [hb] at h; simp at h
      have := dg_le b
      have : decide (dg b < 1) = false := by
        unfold numBad at hb
        simp only [Bool.or_eq_false_iff] at hb
        exact hb.1.1.1.1.1.1
      have := of_decide_eq_false this
      omega
theorem nm_pos {b : List UInt8} (h : isLetter (hd b) = true) : 0 < nm b := by
  cases b with
  | nil => simp [hd, isLetter] at h
  | cons c r =>
    rw [nm_cons]
    simp only [hd] at h
    unfold inName
    rw [h]; simp
theorem sg_le : ∀ (l : List (List UInt8)) (b : List UInt8), sgF l b ≤ b.length
  | [], b => Nat.zero_le _
  | p :: ps, b => by
    unfold sgF
    cases h : isPre p b with
    | true => exact ((isPre_iff _ _).1 h).1
    | false => exact sg_le ps b
theorem oneS_len {b t r : List UInt8} {k : Int} (h : oneS b = some (k, t, r)) : r.length < b.length := by
  unfold oneS at h
  simp only at h
  cases h1 : isLetter (hd b) with
  | true =>
    rw [h1, cond_true] at h
    cases h2 : nmBad b with
    | true => rw [h2] at h; cases h
    | false =>
      rw [h2] at h
      simp only [cond_false, Option.some.injEq, Prod.mk.injEq] at h
      rw [← h.2.2, List.length_drop]
      have := nm_pos h1
      have := nm_le b
      omega
  | false =>
    rw [h1, cond_false] at h
    cases h2 : isDigit (hd b) || (decide (hd b = 45) && isDigit (hd (b.drop 1))) with
    | true =>
      rw [h2, cond_true] at h
      cases h3 : numLen b with
      | none => rw [h3] at h; cases h
      | some n =>
        rw [h3] at h
        simp only [Option.some.injEq, Prod.mk.injEq] at h
        have := numLen_bd h3
        rw [← h.2.2, List.length_drop]; omega
    | false =>
      rw [h2, cond_false] at h
      by_cases h3 : hd b = 39
      · rw [decide_eq_true h3, cond_true] at h
        cases h4 : hexBad (b.drop 1) with
        | true => rw [h4] at h; cases h
        | false =>
          rw [h4] at h
          simp only [cond_false, Option.some.injEq, Prod.mk.injEq] at h
          have : b ≠ [] := fun e => by rw [e] at h3; cases h3
          have := List.length_pos_iff.2 this
          rw [← h.2.2, List.length_drop, List.length_drop]; omega
      · rw [decide_eq_false h3, cond_false] at h
        by_cases h4 : hd b = 34
        · rw [decide_eq_true h4, cond_true] at h
          cases h5 : qd false (b.drop 1) [] with
          | none => rw [h5] at h; cases h
          | some q =>
            rw [h5] at h
            obtain ⟨t', r'⟩ := q
            simp only [Option.some.injEq, Prod.mk.injEq] at h
            have := qd_len _ _ _ _ _ h5
            rw [List.length_drop] at this
            rw [← h.2.2]; omega
        · rw [decide_eq_false h4, cond_false] at h
          by_cases h5 : 0 < sg b
          · rw [decide_eq_true h5, cond_true] at h
            simp only [Option.some.injEq, Prod.mk.injEq] at h
            have := sg_le sgs b
            have e : sgF sgs b = sg b := rfl
            rw [← h.2.2, List.length_drop]; omega
          · rw [decide_eq_false h5] at h; cases h
theorem one_eq (s : Str) (i : Int) (h0 : 0 ≤ i) (h1 : i < s.b.length) (hl : s.b.length ≤ 1000000) :
    T (fun (q : GTok × Int) => match oneS (s.b.drop i.toNat) with
      | none => q.2 < 0
      | some (k, t, r) => q = (⟨k, ⟨t⟩, i⟩, (s.b.length : Int) - (r.length : Int))) (r04_one s i) := by
  unfold r04_one
  refine T.get h0 h1 fun y hy => ?_
  have ed := dropc hy
  have hy0 : hd (s.b.drop i.toNat) = y := by rw [ed]; rfl
  have ed1 : (s.b.drop i.toNat).drop 1 = s.b.drop (i.toNat + 1) := by rw [List.drop_drop]
  have elen : (s.b.drop i.toNat).length = s.b.length - i.toNat := List.length_drop
  have etake : ∀ (n : Nat), (s.b.take (i + (n : Int)).toNat).drop i.toNat = (s.b.drop i.toNat).take n := fun n => by
    rw [seg]; congr 1; omega
  have erest : ∀ (n : Nat), n ≤ (s.b.drop i.toNat).length → i + (n : Int) = (s.b.length : Int) - (((s.b.drop i.toNat).drop n).length : Int) := fun n hn => by
    rw [List.length_drop, elen]; rw [elen] at hn; omega
  refine T.jp (ι := Int × GTok) (fun (q : Int × GTok) => match oneS (s.b.drop i.toNat) with
      | none => q.1 < 0
      | some (k, t, r) => (q.2, q.1) = (⟨k, ⟨t⟩, i⟩, (s.b.length : Int) - (r.length : Int))) (fun J h => ?_) fun q hq => T.some hq
  unfold oneS at h ⊢
  simp only [hy0] at h ⊢
  refine T.eq (letter_eq y) (T.br (fun hle => ?_) fun hle => T.eq (digit_eq y) ?_)
  · rw [hle, cond_true] at h ⊢
    have hcl : isLetter (hd (s.b.drop i.toNat)) = true := by rw [hy0]; exact hle
    refine T.eq (name_eq s i h0 h1 hl hcl) ?_
    cases hb : nmBad (s.b.drop i.toNat) with
    | true =>
      rw [hb, cond_true] at h
      simp only [cond_true] at h ⊢
      exact T.br (fun _ => T.some (by dsimp only; omega)) fun hn => by have := of_decide_eq_false hn; omega
    | false =>
      rw [hb, cond_false] at h
      simp only [cond_false] at h ⊢
      have hnl := nm_le (s.b.drop i.toNat)
      rw [elen] at hnl
      refine T.br (fun hn => by have := of_decide_eq_true hn; omega) fun _ => T.asd (by omega) ?_
      rw [etake]
      refine T.jp (ι := GTok) (fun t => t = ⟨bif decide (y ≤ 90) then 1 else 2, ⟨(s.b.drop i.toNat).take (nm (s.b.drop i.toNat))⟩, i⟩) (fun J2 h2 => T.br (fun h3 => h2 _ (by rw [h3]; rfl)) fun h3 => h2 _ (by rw [h3]; rfl)) fun t ht => ?_
      subst ht
      refine T.eq (word_eq _) (T.br (fun h3 => h _ ?_) fun h3 => h _ ?_)
      · dsimp only at h3 ⊢; rw [h3, ← erest _ (nm_le _)]; rfl
      · dsimp only at h3 ⊢; rw [h3, ← erest _ (nm_le _)]; rfl
  · rw [hle, cond_false] at h ⊢
    refine T.jp (fun b => b = (isDigit y || (decide (y = 45) && isDigit (hd ((s.b.drop i.toNat).drop 1))))) (fun J2 h2 => T.br (fun h3 => h2 _ (by rw [h3]; rfl)) fun h3 => ?_) fun b hb => ?_
    · refine T.jp (fun b => b = (decide (y = 45) && isDigit (hd ((s.b.drop i.toNat).drop 1)))) (fun J3 h4 => T.br (fun h5 => T.ck (by omega) (T.eq (at_eq s (i + 1) (by omega)) (T.eq (digit_eq _) (h4 _ ?_)))) fun h5 => h4 _ (by rw [h5]; rfl)) fun b hb => h2 _ (by rw [h3, hb]; rfl)
      rw [h5, ed1, show (i + 1).toNat = i.toNat + 1 by omega]; rfl
    rw [← hb] at h ⊢
    refine T.br (fun h3 => T.eq (number_eq s i h0 h1 hl) ?_) fun h3 => ?_
    · rw [h3, cond_true] at h ⊢
      cases hn : numLen (s.b.drop i.toNat) with
      | none =>
        simp only [hn] at h ⊢
        exact T.br (fun _ => T.some (by dsimp only; omega)) fun hn => by have := of_decide_eq_false hn; omega
      | some n =>
        simp only [hn] at h ⊢
        have hbd := numLen_bd hn
        have hbd2 := hbd.2
        rw [elen] at hbd2
        refine T.br (fun hn => by have := of_decide_eq_true hn; omega) fun _ => T.asd (by omega) (h _ ?_)
        rw [etake, ← erest n hbd.2]
    · rw [h3, cond_false] at h ⊢
      refine T.br (fun h4 => T.eq (hex_eq s i h0 h1 hl) (h _ ?_)) fun h4 => ?_
      · rw [h4, cond_true, ed1]
        cases hb : hexBad (s.b.drop (i.toNat + 1)) with
        | true => simp only [cond_true]; omega
        | false =>
          simp only [cond_false]
          have h5 : hx (s.b.drop (i.toNat + 1)) + 1 < (s.b.drop (i.toNat + 1)).length := by
            unfold hexBad at hb
            have := (Bool.or_eq_false_iff.1 hb).2
            have h72 : hd ((s.b.drop (i.toNat + 1)).drop (hx (s.b.drop (i.toNat + 1)) + 1)) = 72 := by simpa using this
            exact hd_lt (by rw [h72]; decide)
          rw [List.length_drop] at h5
          rw [List.length_drop, List.length_drop]
          have e : i + 1 + (hx (s.b.drop (i.toNat + 1)) : Int) + 2 = (s.b.length : Int) - ((s.b.length - (i.toNat + 1) - (hx (s.b.drop (i.toNat + 1)) + 2) : Nat) : Int) := by omega
          rw [e]
      · rw [h4, cond_false] at h ⊢
        refine T.br (fun h5 => T.eq (quoted_eq s i h0 h1 hl) (h _ ?_)) fun h5 => ?_
        · rw [h5, cond_true, ed1]
          cases hq : qd false (s.b.drop (i.toNat + 1)) [] with
          | none => simp only; omega
          | some q => rfl
        · rw [h5, cond_false] at h ⊢
          refine T.eq (sign_eq s i h0 h1 hl) (T.br (fun h6 => ?_) fun h6 => h _ ?_)
          · have h6 := of_decide_eq_true h6
            have hsl := sg_le sgs (s.b.drop i.toNat)
            have esg : sgF sgs (s.b.drop i.toNat) = sg (s.b.drop i.toNat) := rfl
            have hpos : 0 < sg (s.b.drop i.toNat) := by omega
            have hsl2 := hsl
            rw [elen] at hsl2
            refine T.ck (by omega) (T.asd (by omega) (T.ck (by omega) (h _ ?_)))
            rw [decide_eq_true hpos, cond_true]
            dsimp only
            rw [etake, ← erest (sg (s.b.drop i.toNat)) hsl]
          · have h6 := of_decide_eq_false h6
            rw [decide_eq_false (show ¬ 0 < sg (s.b.drop i.toNat) by omega)]
            simp only [cond_false]; omega

def toksF (n : Nat) : Nat → List UInt8 → List GTok → List GTok × Int × Int
  | 0, _, _ => ([], 0, 0)
  | f + 1, b, acc => match wh .out b with
    | [] => (acc ++ [⟨0, ⟨[]⟩, (n : Int)⟩], 0, 0)
    | c :: r => match oneS (c :: r) with
      | none => ([], (n : Int) - ((c :: r).length : Int), 6)
      | some (k, t, r') => toksF n f r' (acc ++ [⟨k, ⟨t⟩, (n : Int) - ((c :: r).length : Int)⟩])
theorem toksF_succ (n f : Nat) (b : List UInt8) (acc : List GTok) : toksF n (f + 1) b acc = match wh .out b with
    | [] => (acc ++ [⟨0, ⟨[]⟩, (n : Int)⟩], 0, 0)
    | c :: r => match oneS (c :: r) with
      | none => ([], (n : Int) - ((c :: r).length : Int), 6)
      | some (k, t, r') => toksF n f r' (acc ++ [⟨k, ⟨t⟩, (n : Int) - ((c :: r).length : Int)⟩]) := rfl
/-- The signs of a text, or where what is none begins. -/
def toks (b : List UInt8) : List GTok × Int × Int := bif decide (8000 < b.length) then ([], 0, 5) else toksF b.length (b.length + 1) b []
theorem wh_len : ∀ (b : List UInt8) (st : Wst), (wh st b).length ≤ b.length
  | [], st => by cases st <;> simp [wh]
  | c :: r, .out => by
    have h1 := wh_len r .out
    have h2 := wh_len r .start
    simp only [wh]
    cases isWh c <;> simp only [cond_true, cond_false]
    · cases decide (c = 45) && decide (hd r = 45) <;> simp only [cond_true, cond_false, List.length_cons] <;> omega
    · simp only [List.length_cons]; omega
  | c :: r, .start => by have := wh_len r .ins; simp only [wh, List.length_cons]; omega
  | c :: r, .ins => by
    have h1 := wh_len r .out
    have h2 := wh_len r .fin
    have h3 := wh_len r .ins
    simp only [wh, List.length_cons]
    cases decide (c = 10) <;> simp only [cond_true, cond_false]
    · cases decide (c = 45) && decide (hd r = 45) <;> simp only [cond_true, cond_false] <;> omega
    · omega
  | c :: r, .fin => by have := wh_len r .out; simp only [wh, List.length_cons]; omega
theorem wh_suf : ∀ (b : List UInt8) (st : Wst), ∃ n, wh st b = b.drop n
  | [], st => ⟨0, by cases st <;> simp [wh]⟩
  | c :: r, .out => by
    obtain ⟨n1, h1⟩ := wh_suf r .out
    obtain ⟨n2, h2⟩ := wh_suf r .start
    simp only [wh]
    cases isWh c <;> simp only [cond_true, cond_false]
    · cases decide (c = 45) && decide (hd r = 45) <;> simp only [cond_true, cond_false]
      · exact ⟨0, rfl⟩
      · exact ⟨n2 + 1, h2⟩
    · exact ⟨n1 + 1, h1⟩
  | c :: r, .start => by obtain ⟨n, h⟩ := wh_suf r .ins; exact ⟨n + 1, h⟩
  | c :: r, .ins => by
    obtain ⟨n1, h1⟩ := wh_suf r .out
    obtain ⟨n2, h2⟩ := wh_suf r .fin
    obtain ⟨n3, h3⟩ := wh_suf r .ins
    simp only [wh]
    cases decide (c = 10) <;> simp only [cond_true, cond_false]
    · cases decide (c = 45) && decide (hd r = 45) <;> simp only [cond_true, cond_false]
      · exact ⟨n3 + 1, h3⟩
      · exact ⟨n2 + 1, h2⟩
    · exact ⟨n1 + 1, h1⟩
  | c :: r, .fin => by obtain ⟨n, h⟩ := wh_suf r .out; exact ⟨n + 1, h⟩
theorem qd_suf : ∀ (b : List UInt8) (f : Bool) (acc t r : List UInt8), qd f b acc = some (t, r) → ∃ n, r = b.drop n
  | [], f, acc, t, r, h => by cases f <;> simp [qd] at h
  | c :: b, true, acc, t, r, h => by
    simp only [qd] at h
    obtain ⟨n, e⟩ := qd_suf b _ _ _ _ h
    exact ⟨n + 1, e⟩
  | c :: b, false, acc, t, r, h => by
    simp only [qd] at h
    by_cases h1 : c = 34
    · simp only [decide_eq_true h1, cond_true] at h
      by_cases h2 : hd b = 34
      · simp only [decide_eq_true h2, cond_true] at h
        obtain ⟨n, e⟩ := qd_suf b _ _ _ _ h
        exact ⟨n + 1, e⟩
      · simp only [decide_eq_false h2, cond_false] at h
        cases hv : Lib.validD acc with
        | true => rw [hv] at h; simp at h; exact ⟨1, h.2.symm⟩
        | false => rw [hv] at h; cases h
    · simp only [decide_eq_false h1, cond_false] at h
      obtain ⟨n, e⟩ := qd_suf b _ _ _ _ h
      exact ⟨n + 1, e⟩
theorem oneS_suf {b t r : List UInt8} {k : Int} (h : oneS b = some (k, t, r)) : ∃ n, r = b.drop n := by
  unfold oneS at h
  simp only at h
  cases h1 : isLetter (hd b) with
  | true =>
    rw [h1, cond_true] at h
    cases h2 : nmBad b with
    | true => rw [h2] at h; cases h
    | false =>
      rw [h2] at h
      simp only [cond_false, Option.some.injEq, Prod.mk.injEq] at h
      exact ⟨_, h.2.2.symm⟩
  | false =>
    rw [h1, cond_false] at h
    cases h2 : isDigit (hd b) || (decide (hd b = 45) && isDigit (hd (b.drop 1))) with
    | true =>
      rw [h2, cond_true] at h
      cases h3 : numLen b with
      | none => rw [h3] at h; cases h
      | some n =>
        rw [h3] at h
        simp only [Option.some.injEq, Prod.mk.injEq] at h
        exact ⟨_, h.2.2.symm⟩
    | false =>
      rw [h2, cond_false] at h
      by_cases h3 : hd b = 39
      · rw [decide_eq_true h3, cond_true] at h
        cases h4 : hexBad (b.drop 1) with
        | true => rw [h4] at h; cases h
        | false =>
          rw [h4] at h
          simp only [cond_false, Option.some.injEq, Prod.mk.injEq, List.drop_drop] at h
          exact ⟨_, h.2.2.symm⟩
      · rw [decide_eq_false h3, cond_false] at h
        by_cases h4 : hd b = 34
        · rw [decide_eq_true h4, cond_true] at h
          cases h5 : qd false (b.drop 1) [] with
          | none => rw [h5] at h; cases h
          | some q =>
            rw [h5] at h
            obtain ⟨t', r'⟩ := q
            simp only [Option.some.injEq, Prod.mk.injEq] at h
            obtain ⟨n, e⟩ := qd_suf _ _ _ _ _ h5
            rw [List.drop_drop] at e
            exact ⟨_, h.2.2.symm.trans e⟩
        · rw [decide_eq_false h4, cond_false] at h
          by_cases h5 : 0 < sg b
          · rw [decide_eq_true h5, cond_true] at h
            simp only [Option.some.injEq, Prod.mk.injEq] at h
            exact ⟨_, h.2.2.symm⟩
          · rw [decide_eq_false h5] at h; cases h
theorem suf_drop {b r : List UInt8} {n : Nat} (h : r = b.drop n) : b.drop (b.length - r.length) = r := by
  subst h
  rw [List.length_drop]
  rcases Nat.lt_or_ge b.length n with h2 | h2
  · rw [List.drop_eq_nil_of_le (show b.length ≤ n by omega), List.drop_eq_nil_of_le (by omega)]
  · congr 1; omega

theorem tokens_eq (s : Str) : r04_Tokens s = some (toks s.b) := by
  refine tx ?_
  unfold r04_Tokens toks
  refine T.br (fun h => T.some ?_) fun h => ?_
  · have h := of_decide_eq_true h
    rw [decide_eq_true (show 8000 < s.b.length by omega)]; rfl
  have hl := of_decide_eq_false h
  rw [decide_eq_false (show ¬ 8000 < s.b.length by omega), cond_false]
  refine T.lp (ι := List GTok × Int) (fun (q : List GTok × Int) => 0 ≤ q.2 ∧ q.2 ≤ (s.b.length : Int) ∧ (q.1.length : Int) ≤ q.2 ∧ ∃ f, (s.b.drop q.2.toNat).length < f ∧ toksF s.b.length (s.b.length + 1) s.b [] = toksF s.b.length f (s.b.drop q.2.toNat) q.1) (fun (q : List GTok × Int) => ((s.b.length : Int) - q.2).toNat) ⟨Int.le_refl _, by dsimp only; omega, by simp, s.b.length + 1, by simp, rfl⟩ (by dsimp only; omega) fun L q hq hL => ?_
  obtain ⟨l, k⟩ := q
  obtain ⟨h1, h2, h3, f, h4, h5⟩ := hq
  simp only at h1 h2 h3 h4 h5 ⊢
  rw [h5] at hL ⊢
  cases f with
  | zero => omega
  | succ f =>
    have hwl := wh_len (s.b.drop k.toNat) .out
    rw [List.length_drop] at hwl h4
    obtain ⟨nw, hw⟩ := wh_suf (s.b.drop k.toNat) .out
    rw [List.drop_drop] at hw
    have hsw := suf_drop hw
    refine T.eq (white_eq s k h1 h2 (by omega)) ?_
    rw [toksF_succ] at hL ⊢
    cases hwh : wh .out (s.b.drop k.toNat) with
    | nil =>
      simp only [hwh] at hL ⊢
      refine T.br (fun _ => T.abl (by simp only [List.length_cons, List.length_nil]; omega) (T.some rfl)) fun h6 => ?_
      have := of_decide_eq_false h6
      simp at this
    | cons c r =>
      simp only [hwh] at hL ⊢ 
      rw [hwh] at hwl hsw
      have hcl : 0 < (c :: r).length := by simp
      refine T.br (fun h6 => by have := of_decide_eq_true h6; omega) fun _ => ?_
      have hi : ((s.b.length : Int) - ((c :: r).length : Int)).toNat = s.b.length - (c :: r).length := by omega
      refine T.cal (one_eq s ((s.b.length : Int) - ((c :: r).length : Int)) (by omega) (by omega) (by omega)) fun q _ hq => ?_
      rw [hi, hsw] at hq
      cases ho : oneS (c :: r) with
      | none =>
        rw [ho] at hq
        simp only [ho] at hL ⊢
        simp only at hq
        exact T.br (fun _ => T.some rfl) fun h7 => by have := of_decide_eq_false h7; omega
      | some p =>
        obtain ⟨kd, t, r'⟩ := p
        rw [ho] at hq
        simp only [ho] at hL ⊢
        simp only at hq
        subst hq
        have hol := oneS_len ho
        obtain ⟨no, hso⟩ := oneS_suf ho
        have hso2 : r' = s.b.drop (s.b.length - (c :: r).length + no) := by rw [hso, ← List.drop_drop, hsw]
        have hsd := suf_drop hso2
        refine T.br (fun h7 => by have := of_decide_eq_true h7; dsimp only at this; omega) fun _ => T.abl (by simp only [List.length_cons, List.length_nil]; omega) (hL _ ⟨by dsimp only; omega, by dsimp only; omega, ?_, f, ?_, ?_⟩ (by dsimp only; omega))
        · dsimp only; rw [List.length_append, List.length_singleton]; omega
        · dsimp only
          rw [show ((s.b.length : Int) - (r'.length : Int)).toNat = s.b.length - r'.length by omega, hsd]
          omega
        · dsimp only
          rw [show ((s.b.length : Int) - (r'.length : Int)).toNat = s.b.length - r'.length by omega, hsd]
end Go.Proofs.YtajbipkppngccaaDoor


namespace Go.Proofs.YtajbipkppngccaaDoor
open Go.Sy
set_option maxRecDepth 4000
def tokF (s : Str) : Option (List GTok × Int × Int) := some (toks s.b)
theorem tokF_eq : r04_Tokens = tokF := funext tokens_eq
def r05_ParseF (a_text : Str) : Option (GMod × Int × Int) :=
  cal (tokF a_text) fun y2 => br (!decide (y2.2.2 = (0 : Int))) (some ((GMod.mk (Str.mk []) (0 : Int) ([] : (List Str)) ([] : (List Int)) ([] : (List GNode))), y2.2.1, y2.2.2)) (cal (r05_parser_kind (GPar.mk y2.1 (0 : Int) (GMod.mk (Str.mk []) (0 : Int) ([] : (List Str)) ([] : (List Int)) ([] : (List GNode))) (0 : Int) (0 : Int)) (1 : Int)) fun y7 => cal (r05_parser_must (GPar.mk y7.2.l y7.2.at_ (GMod.mk y7.1 y7.2.m.tagging y7.2.m.names y7.2.m.types y7.2.m.nodes) y7.2.e y7.2.p) (Str.mk [68, 69, 70, 73, 78, 73, 84, 73, 79, 78, 83])) fun y10 => jp (ι := GPar) (fun J14 => cal (r05_parser_is y10 (Str.mk [69, 88, 80, 76, 73, 67, 73, 84])) fun y15 => br y15.1 (cal (r05_parser_must y15.2 (Str.mk [84, 65, 71, 83])) fun y18 => J14 (y18)) (cal (r05_parser_is y15.2 (Str.mk [73, 77, 80, 76, 73, 67, 73, 84])) fun y21 => br y21.1 (cal (r05_parser_must (GPar.mk y21.2.l y21.2.at_ (GMod.mk y21.2.m.name (1 : Int) y21.2.m.names y21.2.m.types y21.2.m.nodes) y21.2.e y21.2.p) (Str.mk [84, 65, 71, 83])) fun y24 => J14 (y24)) (cal (r05_parser_is y21.2 (Str.mk [65, 85, 84, 79, 77, 65, 84, 73, 67])) fun y27 => br y27.1 (cal (r05_parser_must (GPar.mk y27.2.l y27.2.at_ (GMod.mk y27.2.m.name (2 : Int) y27.2.m.names y27.2.m.types y27.2.m.nodes) y27.2.e y27.2.p) (Str.mk [84, 65, 71, 83])) fun y30 => J14 (y30)) (J14 (y27.2))))) (fun q13 => cal (r05_parser_must q13 (Str.mk [58, 58, 61])) fun y33 => cal (r05_parser_must y33 (Str.mk [66, 69, 71, 73, 78])) fun y36 => lp (ι := GPar) (fun L40 q39 => jp (ι := Bool × GPar) (fun J92 => br (decide (q39.e = (0 : Int))) (cal (r05_parser_is q39 (Str.mk [69, 78, 68])) fun y94 => J92 ((!y94.1), y94.2)) (J92 (false, q39))) (fun q91 => br q91.1 (cal (r05_parser_now q91.2) fun y97 => cal (r05_parser_kind y97.2 (1 : Int)) fun y101 => jp (ι := Bool) (fun J105 => br (decide (y101.2.e = (0 : Int))) (J105 ((decide ((40 : Int) ≤ (y101.2.m.names.length : Int))))) (J105 (false))) (fun q104 => jp (ι := GPar) (fun J108 => br q104 (cal (r05_parser_fail y101.2 (5 : Int) y97.1) fun y109 => J108 (y109)) (J108 (y101.2))) (fun q107 => cal (r05_parser_must q107 (Str.mk [58, 58, 61])) fun y112 => cal (r05_parser_typ fuel y112 (0 : Int)) fun y115 => asr (Nat.ble (y115.2.m.names.length + ([y101.1] : (List Str)).length) 68719476736) <| asr (Nat.ble (y115.2.m.types.length + ([y115.1] : (List Int)).length) 68719476736) <| L40 ((GPar.mk y115.2.l y115.2.at_ (GMod.mk y115.2.m.name y115.2.m.tagging (y115.2.m.names ++ ([y101.1] : (List Str))) (y115.2.m.types ++ ([y115.1] : (List Int))) y115.2.m.nodes) y115.2.e y115.2.p))))) (jp (ι := Bool × GPar) (fun J126 => br (decide (q91.2.e = (0 : Int))) (cal (r05_parser_now q91.2) fun y128 => J126 ((!decide (y128.1.kind = (0 : Int))), y128.2)) (J126 (false, q91.2))) (fun q125 => jp (ι := GPar) (fun J132 => br q125.1 (cal (r05_parser_now q125.2) fun y133 => cal (r05_parser_fail y133.2 (7 : Int) y133.1) fun y136 => J132 (y136)) (J132 (q125.2))) (fun q131 => br (!decide (q131.e = (0 : Int))) (some ((GMod.mk (Str.mk []) (0 : Int) ([] : (List Str)) ([] : (List Int)) ([] : (List GNode))), q131.p, q131.e)) (some (q131.m, (0 : Int), (0 : Int)))))))) ((y36))))
theorem r05_ParseF_eq : r05_Parse = r05_ParseF := by
  funext a_text
  unfold r05_Parse r05_ParseF
  rw [tokF_eq]
def oghamplay_TableF (a_text : Str) : Option (GTab × Bool) :=
  br (decide ((3000 : Int) < (a_text.b.length : Int))) (some ((GTab.mk (Str.mk []) ([] : (List Str)) ([] : (List Int)) ([] : (List GTyp))), false)) (cal (r05_ParseF a_text) fun y2 => br (!decide (y2.2.2 = (0 : Int))) (some ((GTab.mk (Str.mk []) ([] : (List Str)) ([] : (List Int)) ([] : (List GTyp))), false)) (cal (r10_Make y2.1) fun y4 => jp (ι := Bool) (fun J7 => br (decide (y4.2.2 = (0 : Int))) (J7 ((decide ((y4.1.types.length : Int) ≤ (120 : Int))))) (J7 (false))) (fun q6 => some (y4.1, q6))))
theorem oghamplay_TableF_eq : oghamplay_Table = oghamplay_TableF := by
  funext a_text
  unfold oghamplay_Table oghamplay_TableF
  rw [r05_ParseF_eq]
def law21_awakeF : Option (Bool) :=
  cal (oghamplay_TableF (Str.mk [77, 32, 68, 69, 70, 73, 78, 73, 84, 73, 79, 78, 83, 32, 58, 58, 61, 32, 66, 69, 71, 73, 78, 32, 65, 32, 58, 58, 61, 32, 83, 69, 81, 85, 69, 78, 67, 69, 32, 123, 32, 97, 32, 78, 85, 76, 76, 44, 32, 46, 46, 46, 32, 125, 32, 69, 78, 68])) fun y1 => cal (oghamplay_TableF (Str.mk [77, 32, 68, 69, 70, 73, 78, 73, 84, 73, 79, 78, 83, 32, 58, 58, 61, 32, 66, 69, 71, 73, 78, 32, 65, 32, 58, 58, 61, 32, 83, 69, 81, 85, 69, 78, 67, 69, 32, 123, 32, 97, 32, 78, 85, 76, 76, 44, 32, 46, 46, 46, 44, 32, 98, 32, 66, 79, 79, 76, 69, 65, 78, 32, 125, 32, 69, 78, 68])) fun y3 => cal (extend_May y1.1 y3.1) fun y5 => cal (extend_May y3.1 y1.1) fun y6 => jp (ι := Bool) (fun J8 => br y1.2 (J8 (y3.2)) (J8 (false))) (fun q7 => jp (ι := Bool) (fun J11 => br q7 (J11 ((decide (y5.2 = (0 : Int))))) (J11 (false))) (fun q10 => jp (ι := Bool) (fun J14 => br q10 (J14 ((decide (y6.2 = (14 : Int))))) (J14 (false))) (fun q13 => jp (ι := Bool) (fun J17 => br q13 (cal (extend_Type y1.1 (0 : Int) y3.1 (0 : Int)) fun y19 => J17 (y19)) (J17 (false))) (fun q16 => some (q16)))))
theorem law21_awakeF_eq : law21_awake = law21_awakeF := by
  unfold law21_awake law21_awakeF
  rw [oghamplay_TableF_eq]
def law21_oneF (a_a : Str) (a_b : Str) : Option (Bool × Bool) :=
  asr (Nat.ble ((Str.mk [77, 32, 68, 69, 70, 73, 78, 73, 84, 73, 79, 78, 83, 32, 73, 77, 80, 76, 73, 67, 73, 84, 32, 84, 65, 71, 83, 32, 58, 58, 61, 32, 66, 69, 71, 73, 78, 32, 65, 32, 58, 58, 61, 32]).b.length + a_a.b.length) 4611686018427387904) <| asr (Nat.ble ((Str.mk ((Str.mk [77, 32, 68, 69, 70, 73, 78, 73, 84, 73, 79, 78, 83, 32, 73, 77, 80, 76, 73, 67, 73, 84, 32, 84, 65, 71, 83, 32, 58, 58, 61, 32, 66, 69, 71, 73, 78, 32, 65, 32, 58, 58, 61, 32]).b ++ a_a.b)).b.length + (Str.mk [32, 69, 78, 68]).b.length) 4611686018427387904) <| cal (oghamplay_TableF (Str.mk ((Str.mk ((Str.mk [77, 32, 68, 69, 70, 73, 78, 73, 84, 73, 79, 78, 83, 32, 73, 77, 80, 76, 73, 67, 73, 84, 32, 84, 65, 71, 83, 32, 58, 58, 61, 32, 66, 69, 71, 73, 78, 32, 65, 32, 58, 58, 61, 32]).b ++ a_a.b)).b ++ (Str.mk [32, 69, 78, 68]).b))) fun y3 => asr (Nat.ble ((Str.mk [77, 32, 68, 69, 70, 73, 78, 73, 84, 73, 79, 78, 83, 32, 73, 77, 80, 76, 73, 67, 73, 84, 32, 84, 65, 71, 83, 32, 58, 58, 61, 32, 66, 69, 71, 73, 78, 32, 65, 32, 58, 58, 61, 32]).b.length + a_b.b.length) 4611686018427387904) <| asr (Nat.ble ((Str.mk ((Str.mk [77, 32, 68, 69, 70, 73, 78, 73, 84, 73, 79, 78, 83, 32, 73, 77, 80, 76, 73, 67, 73, 84, 32, 84, 65, 71, 83, 32, 58, 58, 61, 32, 66, 69, 71, 73, 78, 32, 65, 32, 58, 58, 61, 32]).b ++ a_b.b)).b.length + (Str.mk [32, 69, 78, 68]).b.length) 4611686018427387904) <| cal (oghamplay_TableF (Str.mk ((Str.mk ((Str.mk [77, 32, 68, 69, 70, 73, 78, 73, 84, 73, 79, 78, 83, 32, 73, 77, 80, 76, 73, 67, 73, 84, 32, 84, 65, 71, 83, 32, 58, 58, 61, 32, 66, 69, 71, 73, 78, 32, 65, 32, 58, 58, 61, 32]).b ++ a_b.b)).b ++ (Str.mk [32, 69, 78, 68]).b))) fun y7 => cal (extend_May y3.1 y7.1) fun y9 => jp (ι := Bool) (fun J11 => br y3.2 (J11 (y7.2)) (J11 (false))) (fun q10 => some ((decide (y9.2 = (0 : Int))), q10))
theorem law21_oneF_eq : law21_one = law21_oneF := by
  funext a_a a_b
  unfold law21_one law21_oneF
  rw [oghamplay_TableF_eq]
end Go.Proofs.YtajbipkppngccaaDoor


namespace Go.Proofs.YtajbipkppngccaaDoor
open Go.Sy
def yes (o : Option Bool) : Bool := match o with
  | some true => true
  | _ => false
theorem of_yes {o : Option Bool} (h : yes o = true) : o = some true := by
  unfold yes at h
  split at h
  · rfl
  · cases h
/-- A whole number, as a word of 64 bits. -/
def wd (n : Int) : UInt64 := UInt64.ofNat (n % 18446744073709551616).toNat
theorem wd_nat {x : Nat} (h : x < 18446744073709551616) : (wd (x : Int)).toNat = x := by
  unfold wd
  rw [UInt64.toNat_ofNat']
  omega
theorem wd_mod (n : Int) (k : UInt64) (hk : 0 < k.toNat) : wd (((wd n % k).toNat : Nat) : Int) % k = wd n % k := by
  apply UInt64.toNat_inj.1
  have h := Nat.mod_lt (wd n).toNat hk
  have h2 := (wd n).toNat_lt
  rw [UInt64.toNat_mod, UInt64.toNat_mod, wd_nat (by have := k.toNat_lt; omega)]
  exact Nat.mod_mod _ _
theorem red (n : Int) (k : UInt64) (hk : 0 < k.toNat) : ∃ x : Nat, x < k.toNat ∧ wd n % k = wd (x : Int) % k :=
  ⟨(wd n % k).toNat, by rw [UInt64.toNat_mod]; exact Nat.mod_lt _ hk, (wd_mod n k hk).symm⟩
theorem all_get {n : Nat} {p : Nat → Bool} (h : ((List.range n).all p) = true) {x : Nat} (hx : x < n) : p x = true := List.all_eq_true.1 h x (List.mem_range.2 hx)
theorem and_get {a b : Bool} (h : (a && b) = true) : a = true ∧ b = true := Bool.and_eq_true_iff.1 h
end Go.Proofs.YtajbipkppngccaaDoor

