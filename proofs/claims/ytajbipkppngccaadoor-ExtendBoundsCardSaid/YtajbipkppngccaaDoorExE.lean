/- Walks, printed by mill.py. -/
import Derived.Test.YtajbipkppngccaaDoorExA
import Derived.Test.YtajbipkppngccaaDoorExB
import Derived.Test.YtajbipkppngccaaDoorExC
import Derived.Test.YtajbipkppngccaaDoorExD
set_option linter.unusedVariables false
set_option linter.unusedSimpArgs false

namespace Go.Proofs.YtajbipkppngccaaDoor
open Go.Sy
set_option maxRecDepth 4000
def r05_parser_field_C (f' : GPar → GNode → Int → Int → Option (GPar × GNode)) : Prop :=
 ∀ {a_x : GPar} {a_n_ : GNode} {a_depth : Int} {a_group : Int} {b_a_x : Nat} {t_a_x1 : Tok} {t_a_x2 : Tok} {v_a_x3 : Vt} {b_a_n_ : Nat} {t_a_n_4 : Tok} {t_a_n_5 : Tok} {r : GPar × GNode}, f' a_x a_n_ a_depth a_group = some r → Ctr Tryd.prog 123 [ptrv b_a_x (Fld.id ((List GTok) × Int × (Str × Int × (TList Str) × (TList Int) × Vh) × Int × Int)), ptrv b_a_n_ (Fld.id (Int × Str × GMark × GCon × (TList GItem) × (TList GFld) × Int × Bool × Int)), isv (a_depth), isv (a_group)] [boxE b_a_x ((a_x.l, a_x.at_, (a_x.m.name, a_x.m.tagging, (TList.mk t_a_x1 a_x.m.names), (TList.mk t_a_x2 a_x.m.types), (Vh.mk v_a_x3 a_x.m.nodes.length)), a_x.e, a_x.p) : ((List GTok) × Int × (Str × Int × (TList Str) × (TList Int) × Vh) × Int × Int)), tokE t_a_x1, tokE t_a_x2, vecE v_a_x3 (a_x.m.nodes : List GNode), boxE b_a_n_ ((a_n_.kind, a_n_.name, a_n_.mark, a_n_.con, (TList.mk t_a_n_4 a_n_.items), (TList.mk t_a_n_5 a_n_.fields), a_n_.root, a_n_.more, a_n_.of) : (Int × Str × GMark × GCon × (TList GItem) × (TList GFld) × Int × Bool × Int)), tokE t_a_n_4, tokE t_a_n_5] (fun R H => ∃ u1 : Tok, ∃ u2 : Tok, ∃ u3 : Vt, ∃ u4 : Tok, ∃ u5 : Tok, R = oneOf [] ∧ H = [boxE b_a_x ((r.1.l, r.1.at_, (r.1.m.name, r.1.m.tagging, (TList.mk u1 r.1.m.names), (TList.mk u2 r.1.m.types), (Vh.mk u3 r.1.m.nodes.length)), r.1.e, r.1.p)), tokE u1, tokE u2, vecE u3 (r.1.m.nodes), boxE b_a_n_ ((r.2.kind, r.2.name, r.2.mark, r.2.con, (TList.mk u4 r.2.items), (TList.mk u5 r.2.fields), r.2.root, r.2.more, r.2.of)), tokE u4, tokE u5])
def r05_parser_typ_C (f' : GPar → Int → Option (Int × GPar)) : Prop :=
 ∀ {a_x : GPar} {a_depth : Int} {b_a_x : Nat} {t_a_x1 : Tok} {t_a_x2 : Tok} {v_a_x3 : Vt} {r : Int × GPar}, f' a_x a_depth = some r → Ctr Tryd.prog 56 [ptrv b_a_x (Fld.id ((List GTok) × Int × (Str × Int × (TList Str) × (TList Int) × Vh) × Int × Int)), isv (a_depth)] [boxE b_a_x ((a_x.l, a_x.at_, (a_x.m.name, a_x.m.tagging, (TList.mk t_a_x1 a_x.m.names), (TList.mk t_a_x2 a_x.m.types), (Vh.mk v_a_x3 a_x.m.nodes.length)), a_x.e, a_x.p) : ((List GTok) × Int × (Str × Int × (TList Str) × (TList Int) × Vh) × Int × Int)), tokE t_a_x1, tokE t_a_x2, vecE v_a_x3 (a_x.m.nodes : List GNode)] (fun R H => ∃ u1 : Tok, ∃ u2 : Tok, ∃ u3 : Vt, R = oneOf [isv (r.1)] ∧ H = [boxE b_a_x ((r.2.l, r.2.at_, (r.2.m.name, r.2.m.tagging, (TList.mk u1 r.2.m.names), (TList.mk u2 r.2.m.types), (Vh.mk u3 r.2.m.nodes.length)), r.2.e, r.2.p)), tokE u1, tokE u2, vecE u3 (r.2.m.nodes)])
def r05_parser_base_C (f' : GPar → GNode → Int → Option (GPar × GNode)) : Prop :=
 ∀ {a_x : GPar} {a_n_ : GNode} {a_depth : Int} {b_a_x : Nat} {t_a_x1 : Tok} {t_a_x2 : Tok} {v_a_x3 : Vt} {b_a_n_ : Nat} {t_a_n_4 : Tok} {t_a_n_5 : Tok} {r : GPar × GNode}, f' a_x a_n_ a_depth = some r → Ctr Tryd.prog 80 [ptrv b_a_x (Fld.id ((List GTok) × Int × (Str × Int × (TList Str) × (TList Int) × Vh) × Int × Int)), ptrv b_a_n_ (Fld.id (Int × Str × GMark × GCon × (TList GItem) × (TList GFld) × Int × Bool × Int)), isv (a_depth)] [boxE b_a_x ((a_x.l, a_x.at_, (a_x.m.name, a_x.m.tagging, (TList.mk t_a_x1 a_x.m.names), (TList.mk t_a_x2 a_x.m.types), (Vh.mk v_a_x3 a_x.m.nodes.length)), a_x.e, a_x.p) : ((List GTok) × Int × (Str × Int × (TList Str) × (TList Int) × Vh) × Int × Int)), tokE t_a_x1, tokE t_a_x2, vecE v_a_x3 (a_x.m.nodes : List GNode), boxE b_a_n_ ((a_n_.kind, a_n_.name, a_n_.mark, a_n_.con, (TList.mk t_a_n_4 a_n_.items), (TList.mk t_a_n_5 a_n_.fields), a_n_.root, a_n_.more, a_n_.of) : (Int × Str × GMark × GCon × (TList GItem) × (TList GFld) × Int × Bool × Int)), tokE t_a_n_4, tokE t_a_n_5] (fun R H => ∃ u1 : Tok, ∃ u2 : Tok, ∃ u3 : Vt, ∃ u4 : Tok, ∃ u5 : Tok, R = oneOf [] ∧ H = [boxE b_a_x ((r.1.l, r.1.at_, (r.1.m.name, r.1.m.tagging, (TList.mk u1 r.1.m.names), (TList.mk u2 r.1.m.types), (Vh.mk u3 r.1.m.nodes.length)), r.1.e, r.1.p)), tokE u1, tokE u2, vecE u3 (r.1.m.nodes), boxE b_a_n_ ((r.2.kind, r.2.name, r.2.mark, r.2.con, (TList.mk u4 r.2.items), (TList.mk u5 r.2.fields), r.2.root, r.2.more, r.2.of)), tokE u4, tokE u5])
def r05_parser_fields_C (f' : GPar → GNode → Int → Option (GPar × GNode)) : Prop :=
 ∀ {a_x : GPar} {a_n_ : GNode} {a_depth : Int} {b_a_x : Nat} {t_a_x1 : Tok} {t_a_x2 : Tok} {v_a_x3 : Vt} {b_a_n_ : Nat} {t_a_n_4 : Tok} {t_a_n_5 : Tok} {r : GPar × GNode}, f' a_x a_n_ a_depth = some r → Ctr Tryd.prog 109 [ptrv b_a_x (Fld.id ((List GTok) × Int × (Str × Int × (TList Str) × (TList Int) × Vh) × Int × Int)), ptrv b_a_n_ (Fld.id (Int × Str × GMark × GCon × (TList GItem) × (TList GFld) × Int × Bool × Int)), isv (a_depth)] [boxE b_a_x ((a_x.l, a_x.at_, (a_x.m.name, a_x.m.tagging, (TList.mk t_a_x1 a_x.m.names), (TList.mk t_a_x2 a_x.m.types), (Vh.mk v_a_x3 a_x.m.nodes.length)), a_x.e, a_x.p) : ((List GTok) × Int × (Str × Int × (TList Str) × (TList Int) × Vh) × Int × Int)), tokE t_a_x1, tokE t_a_x2, vecE v_a_x3 (a_x.m.nodes : List GNode), boxE b_a_n_ ((a_n_.kind, a_n_.name, a_n_.mark, a_n_.con, (TList.mk t_a_n_4 a_n_.items), (TList.mk t_a_n_5 a_n_.fields), a_n_.root, a_n_.more, a_n_.of) : (Int × Str × GMark × GCon × (TList GItem) × (TList GFld) × Int × Bool × Int)), tokE t_a_n_4, tokE t_a_n_5] (fun R H => ∃ u1 : Tok, ∃ u2 : Tok, ∃ u3 : Vt, ∃ u4 : Tok, ∃ u5 : Tok, R = oneOf [] ∧ H = [boxE b_a_x ((r.1.l, r.1.at_, (r.1.m.name, r.1.m.tagging, (TList.mk u1 r.1.m.names), (TList.mk u2 r.1.m.types), (Vh.mk u3 r.1.m.nodes.length)), r.1.e, r.1.p)), tokE u1, tokE u2, vecE u3 (r.1.m.nodes), boxE b_a_n_ ((r.2.kind, r.2.name, r.2.mark, r.2.con, (TList.mk u4 r.2.items), (TList.mk u5 r.2.fields), r.2.root, r.2.more, r.2.of)), tokE u4, tokE u5])
theorem r05_parser_field_w0 {r05_parser_field' : GPar → GNode → Int → Int → Option (GPar × GNode)} {r05_parser_typ' : GPar → Int → Option (Int × GPar)} {r05_parser_base' : GPar → GNode → Int → Option (GPar × GNode)} {r05_parser_fields' : GPar → GNode → Int → Option (GPar × GNode)} (h_r05_parser_field : r05_parser_field_C r05_parser_field') (h_r05_parser_typ : r05_parser_typ_C r05_parser_typ') (h_r05_parser_base : r05_parser_base_C r05_parser_base') (h_r05_parser_fields : r05_parser_fields_C r05_parser_fields') : ∀ {a_x : GPar} {a_n_ : GNode} {a_depth : Int} {a_group : Int} {b_a_x : Nat} {t_a_x1 : Tok} {t_a_x2 : Tok} {v_a_x3 : Vt} {b_a_n_ : Nat} {t_a_n_4 : Tok} {t_a_n_5 : Tok} {r : GPar × GNode}, r05_parser_field_F r05_parser_field' r05_parser_typ' r05_parser_base' r05_parser_fields' a_x a_n_ a_depth a_group = some r → Ctr Tryd.prog 123 [ptrv b_a_x (Fld.id ((List GTok) × Int × (Str × Int × (TList Str) × (TList Int) × Vh) × Int × Int)), ptrv b_a_n_ (Fld.id (Int × Str × GMark × GCon × (TList GItem) × (TList GFld) × Int × Bool × Int)), isv (a_depth), isv (a_group)] [boxE b_a_x ((a_x.l, a_x.at_, (a_x.m.name, a_x.m.tagging, (TList.mk t_a_x1 a_x.m.names), (TList.mk t_a_x2 a_x.m.types), (Vh.mk v_a_x3 a_x.m.nodes.length)), a_x.e, a_x.p) : ((List GTok) × Int × (Str × Int × (TList Str) × (TList Int) × Vh) × Int × Int)), tokE t_a_x1, tokE t_a_x2, vecE v_a_x3 (a_x.m.nodes : List GNode), boxE b_a_n_ ((a_n_.kind, a_n_.name, a_n_.mark, a_n_.con, (TList.mk t_a_n_4 a_n_.items), (TList.mk t_a_n_5 a_n_.fields), a_n_.root, a_n_.more, a_n_.of) : (Int × Str × GMark × GCon × (TList GItem) × (TList GFld) × Int × Bool × Int)), tokE t_a_n_4, tokE t_a_n_5] (fun R H => ∃ u1 : Tok, ∃ u2 : Tok, ∃ u3 : Vt, ∃ u4 : Tok, ∃ u5 : Tok, R = oneOf [] ∧ H = [boxE b_a_x ((r.1.l, r.1.at_, (r.1.m.name, r.1.m.tagging, (TList.mk u1 r.1.m.names), (TList.mk u2 r.1.m.types), (Vh.mk u3 r.1.m.nodes.length)), r.1.e, r.1.p)), tokE u1, tokE u2, vecE u3 (r.1.m.nodes), boxE b_a_n_ ((r.2.kind, r.2.name, r.2.mark, r.2.con, (TList.mk u4 r.2.items), (TList.mk u5 r.2.fields), r.2.root, r.2.more, r.2.of)), tokE u4, tokE u5]) := by
 intro a_x a_n_ a_depth a_group b_a_x t_a_x1 t_a_x2 v_a_x3 b_a_n_ t_a_n_4 t_a_n_5 r h
 unfold r05_parser_field_F at h
 refine spec_intro Tryd.func123 rfl (by decide +kernel) (by rfl) fun w0 S0 hT => ?_
 refine wsr ?_
 refine oV (v_move rfl) ?_
 refine cal_inv h fun y6 hy6 h => ?_
 refine oT (t_call (r05_parser_kind_w hy6) hT (.same rfl (.same rfl .nil)) (.cons .here (.cons .here (.cons .here (.cons .here .nil)))) (fun R H' hR => ?_))
 obtain ⟨t7, t8, rfl, rfl⟩ := hR
 refine oV (v_move rfl) ?_
 refine oV (v_build (z := (GFld.mk y6.1 (0 : Int) false false (Val.mk (0 : Int) (0 : Int) ([] : (List UInt8)) ([] : (List Val)) (0 : Int) ([] : (List Raw))) a_group)) rfl bu69 ze69 (.cons GFld.f0 fd69_0 rfl (fun _ _ h => h) (.cons GFld.f5 fd69_5 rfl (fun _ _ h => h) .nil))) ?_
 refine oT (t_alloc _ ze69 fun b9 => ?_)
 refine oT (t_storeC (y' := ((GFld.mk y6.1 (0 : Int) false false (Val.mk (0 : Int) (0 : Int) ([] : (List UInt8)) ([] : (List Val)) (0 : Int) ([] : (List Raw))) a_group) : GFld)) ty69 rfl rfl (fun _ _ h => h) .here rfl ?_)
 refine rnf ?_
 refine wsr ?_
 refine oV (v_move rfl) ?_
 refine oV (v_move rfl) ?_
 refine ck_inv h fun q10 h => ?_
 refine oV (v_add rfl rfl q10) ?_
 refine cal_inv h fun y11 hy11 h => ?_
 refine oT (t_call (h_r05_parser_typ hy11) hT (.same rfl (.same rfl .nil)) (.cons (.there .here) (.cons (.there .here) (.cons (.there .here) (.cons (.there .here) .nil)))) (fun R H' hR => ?_))
 obtain ⟨t12, t13, v14, rfl, rfl⟩ := hR
 refine oV (v_fa rfl GFld.f1 fd69_1) ?_
 refine oT (t_storeC (y' := ((GFld.mk y6.1 y11.1 false false (Val.mk (0 : Int) (0 : Int) ([] : (List UInt8)) ([] : (List Val)) (0 : Int) ([] : (List Raw))) a_group) : GFld)) ty3 rfl rfl (fun _ _ h => h) (.there (.there (.there (.there .here)))) rfl ?_)
 refine rnf ?_
 refine w_seq ?_
 refine w_J (ι := GFld × GPar) (γ := Tok × Tok) (fun q15 g15 => []) (fun q15 g15 => [boxE b9 (q15.1 : GFld), boxE b_a_x ((q15.2.l, q15.2.at_, (q15.2.m.name, q15.2.m.tagging, (TList.mk g15.1 q15.2.m.names), (TList.mk g15.2 q15.2.m.types), (Vh.mk v14 q15.2.m.nodes.length)), q15.2.e, q15.2.p) : ((List GTok) × Int × (Str × Int × (TList Str) × (TList Int) × Vh) × Int × Int)), tokE g15.1, tokE g15.2, vecE v14 (q15.2.m.nodes : List GNode)]) (.cons .here (.cons .here (.cons .here (.cons .here (.cons .here .nil))))) h (fun q15 g15 h => ?_) (fun J16 h hJ16 => ?_)
 ·
  refine w_pinN 8 .here rfl (fun o26 hn27 => ?_)
  refine w_regionD (.v 0 (.v 1 (.v 2 (.v 3 (.v 5 (.alt 4 (.t 6 (.t 7 (.v 8 (.v 9 (.t 10 .nil))))) (.t 6 (.t 4 (.t 7 (.v 8 (.v 9 (.t 10 .nil)))))))))))) moOrd (by kernel_rfl) ?_
  refine rd_v rfl (v_move rfl) ?_
  refine rd_v rfl (v_move rfl) ?_
  refine rd_v rfl (v_nilCheck rfl) ?_
  refine rd_v rfl (v_fa rfl pt133_0_5 fd133_5) ?_
  refine rd_v rfl (v_lpC (R := isv (q15.1)) ty69 rfl (List.Mem.head _) (fun _ _ h => h)) ?_
  refine asr_inv h fun q30 h => ?_
  refine rd_two ?_ ?_
  ·
   refine rd_t rfl rfl (t_loadC (R := appv t_a_n_5 (a_n_.fields)) ty56 rfl (.there (.there (.there (.there .here)))) isvT1 ?_)
   refine rd_t rfl rfl (t_buildSlice (l := ([q15.1] : (List GFld))) el56 (.cons rfl (fun _ _ h => h) .nil) rfl rfl ?_)
   refine rd_t rfl rfl (t_appC (l := a_n_.fields) (m := ([q15.1] : (List GFld))) ap56_56 rfl (fun _ _ h => h) rfl appv_isv (.there (.there (.there (.there (.there (.there .here)))))) q30 fun t29 => ?_)
   refine rd_v rfl (v_nilCheck rfl) ?_
   refine rd_v rfl (v_fa rfl pt133_0_5 fd133_5) ?_
   refine rd_t rfl rfl (t_storeC (y' := ((a_n_.kind, a_n_.name, a_n_.mark, a_n_.con, (TList.mk t_a_n_4 a_n_.items), (TList.mk t29 (a_n_.fields ++ ([q15.1] : (List GFld)))), a_n_.root, a_n_.more, a_n_.of) : (Int × Str × GMark × GCon × (TList GItem) × (TList GFld) × Int × Bool × Int))) ty56 rfl rfl isvT2 (.there (.there (.there (.there (.there .here))))) rfl ?_)
   refine rd_nil ?_
   refine fin_unpinN 8 hn27 rfl ?_
   refine fin_post .nil (.cons (.there (.there (.there .here))) (.cons (.there (.there (.there .here))) (.cons (.there (.there (.there .here))) (.cons (.there (.there (.there .here))) (.cons (.there .here) (.cons (.there (.there .here)) (.cons (.there .here) .nil))))))) ?_
   obtain rfl := Option.some.inj h
   exact ⟨g15.1, g15.2, v14, t_a_n_4, t29, rfl, rfl⟩
  ·
   refine rd_t rfl rfl (t_buildSlice (l := ([q15.1] : (List GFld))) el56 (.cons rfl (fun _ _ h => h) .nil) rfl rfl ?_)
   refine rd_t rfl rfl (t_loadC (R := appv t_a_n_5 (a_n_.fields)) ty56 rfl (.there (.there (.there (.there .here)))) isvT1 ?_)
   refine rd_t rfl rfl (t_appC (l := a_n_.fields) (m := ([q15.1] : (List GFld))) ap56_56 rfl (fun _ _ h => h) rfl appv_isv (.there (.there (.there (.there (.there (.there .here)))))) q30 fun t32 => ?_)
   refine rd_v rfl (v_nilCheck rfl) ?_
   refine rd_v rfl (v_fa rfl pt133_0_5 fd133_5) ?_
   refine rd_t rfl rfl (t_storeC (y' := ((a_n_.kind, a_n_.name, a_n_.mark, a_n_.con, (TList.mk t_a_n_4 a_n_.items), (TList.mk t32 (a_n_.fields ++ ([q15.1] : (List GFld)))), a_n_.root, a_n_.more, a_n_.of) : (Int × Str × GMark × GCon × (TList GItem) × (TList GFld) × Int × Bool × Int))) ty56 rfl rfl isvT2 (.there (.there (.there (.there (.there .here))))) rfl ?_)
   refine rd_nil ?_
   refine fin_unpinN 8 hn27 rfl ?_
   refine fin_post .nil (.cons (.there (.there (.there .here))) (.cons (.there (.there (.there .here))) (.cons (.there (.there (.there .here))) (.cons (.there (.there (.there .here))) (.cons (.there .here) (.cons (.there (.there .here)) (.cons (.there .here) .nil))))))) ?_
   obtain rfl := Option.some.inj h
   exact ⟨g15.1, g15.2, v14, t_a_n_4, t32, rfl, rfl⟩
 ·
  refine w_block ?_
  refine wsr ?_
  refine oV (v_move rfl) ?_
  refine oV (v_nilCheck rfl) ?_
  refine oV (v_fa rfl pt133_0_0 fd133_0) ?_
  refine oT (t_loadC (R := isv (a_n_.kind)) ty3 rfl (.there (.there (.there (.there (.there .here))))) (fun _ _ h => h) ?_)
  refine oV (v_eql rfl rfl) ?_
  refine oV (v_assign rfl) ?_
  refine rnf ?_
  refine w_condM h rfl (fun _ h => ?_) (fun _ h => ?_)
  ·
   refine w_skip ?_
   refine fin_block ?_
   exact hJ16 _ (t12, t13) h _ (join_imp 6 rfl rfl mod_nil (.cons .here (.cons .here (.cons .here (.cons .here (.cons .here (.cons .here (.cons .here (.cons .here .nil)))))))))
  ·
   refine wsr ?_
   refine oV (v_move rfl) ?_
   refine cal_inv h fun y17 hy17 h => ?_
   refine oT (t_call (r05_parser_is_w hy17) hT (.same rfl (.same rfl .nil)) (.cons (.there .here) (.cons (.there .here) (.cons (.there .here) (.cons (.there .here) .nil)))) (fun R H' hR => ?_))
   obtain ⟨t18, t19, rfl, rfl⟩ := hR
   refine oV (v_assign rfl) ?_
   refine rnf ?_
   refine w_condM h rfl (fun _ h => ?_) (fun _ h => ?_)
   ·
    refine w_region ?_
    refine oV (v_fa rfl GFld.f2 fd69_2) ?_
    refine oT (t_storeC (y' := ((GFld.mk y6.1 y11.1 true false (Val.mk (0 : Int) (0 : Int) ([] : (List UInt8)) ([] : (List Val)) (0 : Int) ([] : (List Raw))) a_group) : GFld)) ty4 rfl rfl (fun _ _ h => h) (.there (.there (.there (.there .here)))) rfl ?_)
    refine rl_nil ?_
    refine fin_block ?_
    exact hJ16 _ (t18, t19) h _ (join_imp 10 rfl rfl mod_nil (.cons .here (.cons .here (.cons .here (.cons .here (.cons .here (.cons .here (.cons .here (.cons .here .nil)))))))))
   ·
    refine wsr ?_
    refine oV (v_move rfl) ?_
    refine cal_inv h fun y20 hy20 h => ?_
    refine oT (t_call (r05_parser_is_w hy20) hT (.same rfl (.same rfl .nil)) (.cons .here (.cons .here (.cons .here (.cons .here .nil)))) (fun R H' hR => ?_))
    obtain ⟨t21, t22, rfl, rfl⟩ := hR
    refine oV (v_assign rfl) ?_
    refine rnf ?_
    refine w_condM h rfl (fun _ h => ?_) (fun _ h => ?_)
    ·
     refine w_region ?_
     refine oV (v_move rfl) ?_
     refine cal_inv h fun y23 hy23 h => ?_
     refine oT (t_call (r05_parser_value_w hy23) hT (.same rfl .nil) (.cons .here (.cons .here (.cons .here (.cons .here .nil)))) (fun R H' hR => ?_))
     obtain ⟨t24, t25, rfl, rfl⟩ := hR
     refine oV (v_fa rfl GFld.f3 fd69_3) ?_
     refine oT (t_storeC (y' := ((GFld.mk y6.1 y11.1 false true (Val.mk (0 : Int) (0 : Int) ([] : (List UInt8)) ([] : (List Val)) (0 : Int) ([] : (List Raw))) a_group) : GFld)) ty4 rfl rfl (fun _ _ h => h) (.there (.there (.there (.there .here)))) rfl ?_)
     refine oV (v_fa rfl GFld.f4 fd69_4) ?_
     refine oT (t_storeC (y' := ((GFld.mk y6.1 y11.1 false true y23.1 a_group) : GFld)) ty67 rfl rfl (fun _ _ h => h) .here rfl ?_)
     refine rl_nil ?_
     refine fin_block ?_
     exact hJ16 _ (t24, t25) h _ (join_imp 16 rfl rfl mod_nil (.cons .here (.cons .here (.cons .here (.cons .here (.cons .here (.cons .here (.cons .here (.cons .here .nil)))))))))
    ·
     refine w_skip ?_
     refine fin_block ?_
     exact hJ16 _ (t21, t22) h _ (join_imp 12 rfl rfl mod_nil (.cons (.there (.there (.there (.there .here)))) (.cons .here (.cons .here (.cons .here (.cons .here (.cons .here (.cons .here (.cons .here .nil)))))))))

theorem r05_parser_typ_w0 {r05_parser_field' : GPar → GNode → Int → Int → Option (GPar × GNode)} {r05_parser_typ' : GPar → Int → Option (Int × GPar)} {r05_parser_base' : GPar → GNode → Int → Option (GPar × GNode)} {r05_parser_fields' : GPar → GNode → Int → Option (GPar × GNode)} (h_r05_parser_field : r05_parser_field_C r05_parser_field') (h_r05_parser_typ : r05_parser_typ_C r05_parser_typ') (h_r05_parser_base : r05_parser_base_C r05_parser_base') (h_r05_parser_fields : r05_parser_fields_C r05_parser_fields') : ∀ {a_x : GPar} {a_depth : Int} {b_a_x : Nat} {t_a_x1 : Tok} {t_a_x2 : Tok} {v_a_x3 : Vt} {r : Int × GPar}, r05_parser_typ_F r05_parser_field' r05_parser_typ' r05_parser_base' r05_parser_fields' a_x a_depth = some r → Ctr Tryd.prog 56 [ptrv b_a_x (Fld.id ((List GTok) × Int × (Str × Int × (TList Str) × (TList Int) × Vh) × Int × Int)), isv (a_depth)] [boxE b_a_x ((a_x.l, a_x.at_, (a_x.m.name, a_x.m.tagging, (TList.mk t_a_x1 a_x.m.names), (TList.mk t_a_x2 a_x.m.types), (Vh.mk v_a_x3 a_x.m.nodes.length)), a_x.e, a_x.p) : ((List GTok) × Int × (Str × Int × (TList Str) × (TList Int) × Vh) × Int × Int)), tokE t_a_x1, tokE t_a_x2, vecE v_a_x3 (a_x.m.nodes : List GNode)] (fun R H => ∃ u1 : Tok, ∃ u2 : Tok, ∃ u3 : Vt, R = oneOf [isv (r.1)] ∧ H = [boxE b_a_x ((r.2.l, r.2.at_, (r.2.m.name, r.2.m.tagging, (TList.mk u1 r.2.m.names), (TList.mk u2 r.2.m.types), (Vh.mk u3 r.2.m.nodes.length)), r.2.e, r.2.p)), tokE u1, tokE u2, vecE u3 (r.2.m.nodes)]) := by
 intro a_x a_depth b_a_x t_a_x1 t_a_x2 v_a_x3 r h
 unfold r05_parser_typ_F at h
 refine spec_intro Tryd.func56 rfl (by decide +kernel) (by rfl) fun w0 S0 hT => ?_
 refine wsr ?_
 refine oV (v_assign rfl) ?_
 refine rnf ?_
 refine w_seq ?_
 refine wsr ?_
 refine oV (v_move rfl) ?_
 refine oV (v_nilCheck rfl) ?_
 refine oV (v_fa rfl pt101_0_3 fd101_3) ?_
 refine oT (t_loadC (R := isv (a_x.e)) ty30 rfl .here (fun _ _ h => h) ?_)
 refine oV (v_neq rfl rfl) ?_
 refine rnf ?_
 refine w_condM h rfl (fun _ h => ?_) (fun _ h => ?_)
 ·
  refine wsr ?_
  refine oV (v_assign rfl) ?_
  refine rnf ?_
  refine w_ret ?_
  refine ret_nxt ?_
  refine ret_post (.tmp rfl .nil) (.cons .here (.cons .here (.cons .here (.cons .here .nil)))) ?_
  obtain rfl := Option.some.inj h
  exact ⟨t_a_x1, t_a_x2, v_a_x3, rfl, rfl⟩
 ·
  refine wkf ?_
  refine w_seq ?_
  refine wsr ?_
  refine oV (v_move rfl) ?_
  refine cal_inv h fun y4 hy4 h => ?_
  refine oT (t_call (r05_parser_now_w hy4) hT (.same rfl .nil) (.cons .here (.cons .here (.cons .here (.cons .here .nil)))) (fun R H' hR => ?_))
  obtain ⟨t5, t6, rfl, rfl⟩ := hR
  refine cal_inv h fun y7 hy7 h => ?_
  refine oT (t_call (r05_begins_w hy7) hT (.same rfl .nil) .nil (fun R H' hR => ?_))
  obtain ⟨rfl, rfl⟩ := hR
  refine oV (v_not rfl) ?_
  refine rnf ?_
  refine w_condM h rfl (fun _ h => ?_) (fun _ h => ?_)
  ·
   refine wsr ?_
   refine oV (v_move rfl) ?_
   refine oV (v_move rfl) ?_
   refine cal_inv h fun y8 hy8 h => ?_
   refine oT (t_call (r05_parser_now_w hy8) hT (.same rfl .nil) (.cons .here (.cons .here (.cons .here (.cons .here .nil)))) (fun R H' hR => ?_))
   obtain ⟨t9, t10, rfl, rfl⟩ := hR
   refine cal_inv h fun y11 hy11 h => ?_
   refine oT (t_call (r05_parser_fail_w hy11) hT (.same rfl (.same rfl (.same rfl .nil))) (.cons .here (.cons .here (.cons .here (.cons .here .nil)))) (fun R H' hR => ?_))
   obtain ⟨t12, t13, rfl, rfl⟩ := hR
   refine rnf ?_
   refine wsr ?_
   refine oV (v_assign rfl) ?_
   refine rnf ?_
   refine w_ret ?_
   refine ret_nxt ?_
   refine ret_post (.tmp rfl .nil) (.cons .here (.cons .here (.cons .here (.cons .here .nil)))) ?_
   obtain rfl := Option.some.inj h
   exact ⟨t12, t13, v_a_x3, rfl, rfl⟩
  ·
   refine wkf ?_
   refine w_seq ?_
   refine wsr ?_
   refine oV (v_move rfl) ?_
   refine oV (v_gtr rfl rfl) ?_
   refine oV (v_move rfl) ?_
   refine rl_j (ι := Bool) (γ := Unit) (fun q14 g14 => [(32, isv (q14))]) (fun q14 g14 => []) .nil h 8 rfl (fun q14 g14 h => ?_) (fun J15 h hJ15 => ?_)
   ·
    refine rnf ?_
    refine w_condM h rfl (fun _ h => ?_) (fun _ h => ?_)
    ·
     refine wsr ?_
     refine oV (v_move rfl) ?_
     refine oV (v_move rfl) ?_
     refine cal_inv h fun y17 hy17 h => ?_
     refine oT (t_call (r05_parser_now_w hy17) hT (.same rfl .nil) (.cons .here (.cons .here (.cons .here (.cons .here .nil)))) (fun R H' hR => ?_))
     obtain ⟨t18, t19, rfl, rfl⟩ := hR
     refine cal_inv h fun y20 hy20 h => ?_
     refine oT (t_call (r05_parser_fail_w hy20) hT (.same rfl (.same rfl (.same rfl .nil))) (.cons .here (.cons .here (.cons .here (.cons .here .nil)))) (fun R H' hR => ?_))
     obtain ⟨t21, t22, rfl, rfl⟩ := hR
     refine rnf ?_
     refine wsr ?_
     refine oV (v_assign rfl) ?_
     refine rnf ?_
     refine w_ret ?_
     refine ret_nxt ?_
     refine ret_post (.tmp rfl .nil) (.cons .here (.cons .here (.cons .here (.cons .here .nil)))) ?_
     obtain rfl := Option.some.inj h
     exact ⟨t21, t22, v_a_x3, rfl, rfl⟩
    ·
     refine wkf ?_
     refine wsr ?_
     refine oV (v_move rfl) ?_
     refine oV (v_nilCheck rfl) ?_
     refine oV (v_fa rfl pt101_0_2 fd101_2) ?_
     refine oV (v_fa rfl pt75_0_4 fd75_4) ?_
     refine oT (t_loadC (R := vecv v_a_x3 (y4.2.m.nodes.length)) ty73 rfl .here isvV1 ?_)
     refine oV (v_vlen sl73 rfl) ?_
     refine oV (v_assign rfl) ?_
     refine rnf ?_
     refine wsr ?_
     refine oV (v_move rfl) ?_
     refine oV (v_move rfl) ?_
     refine oV (v_nilCheck rfl) ?_
     refine oV (v_fa rfl pt101_0_2 fd101_2) ?_
     refine oV (v_fa rfl pt75_0_4 fd75_4) ?_
     refine oT (t_loadC (R := vecv v_a_x3 (y4.2.m.nodes.length)) ty73 rfl .here isvV1 ?_)
     refine oV (v_build (z := (GNode.mk (0 : Int) (Str.mk []) (GMark.mk false (0 : Int) (0 : Int)) (GCon.mk false false false false (0 : Int) (0 : Int)) ([] : (List GItem)) ([] : (List GFld)) (0 : Int) false (0 : Int))) rfl bu133 ze133 .nil) ?_
     refine oT (t_buildSlice (l := ([(GNode.mk (0 : Int) (Str.mk []) (GMark.mk false (0 : Int) (0 : Int)) (GCon.mk false false false false (0 : Int) (0 : Int)) ([] : (List GItem)) ([] : (List GFld)) (0 : Int) false (0 : Int))] : (List GNode))) el73 (.cons rfl (fun _ _ h => h) .nil) rfl rfl ?_)
     refine asr_inv h fun q25 h => ?_
     refine oT (t_vappF (m := ([(GNode.mk (0 : Int) (Str.mk []) (GMark.mk false (0 : Int) (0 : Int)) (GCon.mk false false false false (0 : Int) (0 : Int)) ([] : (List GItem)) ([] : (List GFld)) (0 : Int) false (0 : Int))] : (List GNode))) ap73_73 rfl rfl appv_isv (.there (.there (.there .here))) (by first | rfl | simp) q25 fun v24 => ?_)
     refine oV (v_nilCheck rfl) ?_
     refine oV (v_fa rfl pt101_0_2 fd101_2) ?_
     refine oV (v_fa rfl pt75_0_4 fd75_4) ?_
     refine oT (t_storeC (y' := ((y4.2.l, y4.2.at_, (y4.2.m.name, y4.2.m.tagging, (TList.mk t5 y4.2.m.names), (TList.mk t6 y4.2.m.types), (Vh.mk v24 (y4.2.m.nodes ++ ([(GNode.mk (0 : Int) (Str.mk []) (GMark.mk false (0 : Int) (0 : Int)) (GCon.mk false false false false (0 : Int) (0 : Int)) ([] : (List GItem)) ([] : (List GFld)) (0 : Int) false (0 : Int))] : (List GNode))).length)), y4.2.e, y4.2.p) : ((List GTok) × Int × (Str × Int × (TList Str) × (TList Int) × Vh) × Int × Int))) ty73 rfl rfl isvV2 (.there .here) rfl ?_)
     refine rnf ?_
     refine wsr ?_
     refine oV (v_build (z := (((0 : Int), (Str.mk []), (GMark.mk false (0 : Int) (0 : Int)), (GCon.mk false false false false (0 : Int) (0 : Int)), (TList.mk none ([] : (List GItem))), (TList.mk none ([] : (List GFld))), (0 : Int), false, (0 : Int)) : (Int × Str × GMark × GCon × (TList GItem) × (TList GFld) × Int × Bool × Int))) rfl bu133 zt133_1 .nil) ?_
     refine oT (t_alloc _ zt133_1 fun b26 => ?_)
     refine rl_upd (upd_tok) ?_
     refine rl_upd (upd_tok) ?_
     refine rl_upd (upd_tok) ?_
     refine rl_upd (upd_tok) ?_
     refine oT (t_storeC (y' := (((0 : Int), (Str.mk []), (GMark.mk false (0 : Int) (0 : Int)), (GCon.mk false false false false (0 : Int) (0 : Int)), (TList.mk none ([] : (List GItem))), (TList.mk none ([] : (List GFld))), (0 : Int), false, (0 : Int)) : (Int × Str × GMark × GCon × (TList GItem) × (TList GFld) × Int × Bool × Int))) ty133 rfl rfl (fun _ _ h => h) (.there (.there (.there (.there .here)))) rfl ?_)
     refine rnf ?_
     refine w_seq ?_
     refine wsr ?_
     refine oV (v_move rfl) ?_
     refine cal_inv h fun y31 hy31 h => ?_
     refine oT (t_call (r05_parser_is_w hy31) hT (.same rfl (.same rfl .nil)) (.cons (.there (.there (.there (.there (.there .here))))) (.cons (.there (.there (.there (.there (.there (.there .here)))))) (.cons (.there (.there (.there (.there (.there (.there .here)))))) (.cons (.there (.there (.there (.there (.there .here))))) .nil)))) (fun R H' hR => ?_))
     obtain ⟨t32, t33, rfl, rfl⟩ := hR
     refine rnf ?_
     refine w_J (ι := GPar × GNode) (γ := Tok × Tok × Tok × Tok) (fun q34 g34 => []) (fun q34 g34 => [boxE b_a_x ((q34.1.l, q34.1.at_, (q34.1.m.name, q34.1.m.tagging, (TList.mk g34.1 q34.1.m.names), (TList.mk g34.2.1 q34.1.m.types), (Vh.mk v24 q34.1.m.nodes.length)), q34.1.e, q34.1.p) : ((List GTok) × Int × (Str × Int × (TList Str) × (TList Int) × Vh) × Int × Int)), tokE g34.1, tokE g34.2.1, vecE v24 (q34.1.m.nodes : List GNode), boxE b26 ((q34.2.kind, q34.2.name, q34.2.mark, q34.2.con, (TList.mk g34.2.2.1 q34.2.items), (TList.mk g34.2.2.2 q34.2.fields), q34.2.root, q34.2.more, q34.2.of) : (Int × Str × GMark × GCon × (TList GItem) × (TList GFld) × Int × Bool × Int)), tokE g34.2.2.1, tokE g34.2.2.2]) (.cons .here (.cons (.there (.there (.there .here))) (.cons .here (.cons .here (.cons .here (.cons .here (.cons .here .nil))))))) h (fun q34 g34 h => ?_) (fun J35 h hJ35 => ?_)
     ·
      refine wsr ?_
      refine oV (v_move rfl) ?_
      refine oV (v_move rfl) ?_
      refine cal_inv h fun y63 hy63 h => ?_
      refine oT (t_call (h_r05_parser_base hy63) hT (.same rfl (.same rfl (.same rfl .nil))) (.cons .here (.cons .here (.cons .here (.cons .here (.cons .here (.cons .here (.cons .here .nil))))))) (fun R H' hR => ?_))
      obtain ⟨t64, t65, v66, t67, t68, rfl, rfl⟩ := hR
      refine rnf ?_
      refine w_seq ?_
      refine wsr ?_
      refine oV (v_move rfl) ?_
      refine oV (v_nilCheck rfl) ?_
      refine oV (v_fa rfl pt101_0_3 fd101_3) ?_
      refine oT (t_loadC (R := isv (y63.1.e)) ty30 rfl .here (fun _ _ h => h) ?_)
      refine oV (v_neq rfl rfl) ?_
      refine rnf ?_
      refine w_condM h rfl (fun _ h => ?_) (fun _ h => ?_)
      ·
       refine wsr ?_
       refine oV (v_assign rfl) ?_
       refine rnf ?_
       refine w_ret ?_
       refine ret_nxt ?_
       refine ret_post (.tmp rfl .nil) (.cons .here (.cons .here (.cons .here (.cons .here .nil)))) ?_
       obtain rfl := Option.some.inj h
       exact ⟨t64, t65, v66, rfl, rfl⟩
      ·
       refine wkf ?_
       refine w_seq ?_
       refine w_pinN 6 (.there (.there (.there (.there .here)))) rfl (fun o69 hn70 => ?_)
       refine w_pinN 0 .here rfl (fun o71 hn72 => ?_)
       refine w_regionD (.v 0 (.v 1 (.v 2 (.v 3 (.v 4 (.v 5 (.v 6 (.v 7 (.t 8 .nil))))))))) moOrd (by kernel_rfl) ?_
       refine rd_v rfl (v_move rfl) ?_
       refine rd_v rfl (v_nilCheckP rfl) ?_
       refine rd_v rfl (v_fp rfl pt101_0_2 fd101_2) ?_
       refine rd_v rfl (v_fp rfl pt75_0_4 fd75_4) ?_
       refine rd_v rfl (v_lpC (R := vecv v66 (y63.1.m.nodes.length)) ty73 rfl (List.Mem.head _) isvV1) ?_
       refine rd_v rfl (v_move rfl) ?_
       refine rd_v rfl (v_lpC (R := isv (((y63.2.kind, y63.2.name, y63.2.mark, y63.2.con, (TList.mk t67 y63.2.items), (TList.mk t68 y63.2.fields), y63.2.root, y63.2.more, y63.2.of)) : ((Int × Str × GMark × GCon × (TList GItem) × (TList GFld) × Int × Bool × Int)))) ty133 rfl (List.Mem.tail _ (List.Mem.head _)) (fun _ _ h => h)) ?_
       refine rd_upd (upd_slot (R' := isv (y63.2)) 105 rfl (Cv.isv rfl fun S => (fun cs h => GNode.cv (x := y63.2) cs (((Cv.pair Cv.id (Cv.pair Cv.id (Cv.pair Cv.id (Cv.pair Cv.id (Cv.pair Cv.tl (Cv.pair Cv.tl (Cv.pair Cv.id (Cv.pair Cv.id Cv.id)))))))) : Cv S ((y63.2.kind, y63.2.name, y63.2.mark, y63.2.con, (TList.mk t67 y63.2.items), (TList.mk t68 y63.2.fields), y63.2.root, y63.2.more, y63.2.of) : (Int × Str × GMark × GCon × (TList GItem) × (TList GFld) × Int × Bool × Int)) (GNode.to y63.2)) cs h)))) ?_
       refine asd_inv h fun q73 h => ?_
       refine rd_v rfl (v_vidx (α := GNode) sl73 rfl rfl q73.1 q73.2) ?_
       refine cal_inv h fun y74 hy74 h => ?_
       refine rd_t rfl rfl (t_vstore ty133 rfl rfl (.there (.there .here)) hy74 ?_)
       refine rd_nil ?_
       refine fin_unpinN 0 hn72 rfl ?_
       refine fin_upd (upd_box (y := ((y63.1.l, y63.1.at_, (y63.1.m.name, y63.1.m.tagging, (TList.mk t64 y63.1.m.names), (TList.mk t65 y63.1.m.types), (Vh.mk v66 (y63.1.m.nodes.set (((y4.2.m.nodes.length : Nat) : Int).toNat) y63.2).length)), y63.1.e, y63.1.p) : ((List GTok) × Int × (Str × Int × (TList Str) × (TList Int) × Vh) × Int × Int))) .here (fun S => (Cv.pair Cv.id (Cv.pair Cv.id (Cv.pair (Cv.pair Cv.id (Cv.pair Cv.id (Cv.pair Cv.id (Cv.pair Cv.id (Cv.vhe (by first | rfl | simp)))))) (Cv.pair Cv.id Cv.id)))))) ?_
       refine fin_unpinN 6 hn70 rfl ?_
       refine fin_nxt ?_
       refine wsr ?_
       refine oV (v_move rfl) ?_
       refine oV (v_assign rfl) ?_
       refine rnf ?_
       refine w_ret ?_
       refine ret_post (.tmp rfl .nil) (.cons (.there .here) (.cons (.there (.there .here)) (.cons (.there (.there .here)) (.cons (.there .here) .nil)))) ?_
       obtain rfl := Option.some.inj h
       exact ⟨t64, t65, v66, rfl, rfl⟩
     ·
      refine w_condM h rfl (fun _ h => ?_) (fun _ h => ?_)
      ·
       refine wsr ?_
       refine oV (v_move rfl) ?_
       refine cal_inv h fun y36 hy36 h => ?_
       refine oT (t_call (r05_parser_now_w hy36) hT (.same rfl .nil) (.cons .here (.cons .here (.cons .here (.cons .here .nil)))) (fun R H' hR => ?_))
       obtain ⟨t37, t38, rfl, rfl⟩ := hR
       refine oT (t_alloc _ ze105 fun b39 => ?_)
       refine oT (t_storeC (y' := (y36.1 : GTok)) ty105 rfl rfl (fun _ _ h => h) .here rfl ?_)
       refine rl_upd (upd_imm 7 .here rfl) ?_
       refine rnf ?_
       refine wsr ?_
       refine oV (v_move rfl) ?_
       refine cal_inv h fun y40 hy40 h => ?_
       refine oT (t_call (r05_parser_number_w hy40) hT (.same rfl .nil) (.cons .here (.cons .here (.cons .here (.cons .here .nil)))) (fun R H' hR => ?_))
       obtain ⟨t41, t42, rfl, rfl⟩ := hR
       refine oV (v_assign rfl) ?_
       refine rnf ?_
       refine w_seq ?_
       refine wsr ?_
       refine oV (v_move rfl) ?_
       refine oV (v_nilCheck rfl) ?_
       refine oV (v_fa rfl pt101_0_3 fd101_3) ?_
       refine oT (t_loadC (R := isv (y40.2.e)) ty30 rfl .here (fun _ _ h => h) ?_)
       refine oV (v_eql rfl rfl) ?_
       refine oV (v_move rfl) ?_
       refine rl_j (ι := Bool) (γ := Unit) (fun q43 g43 => [(74, isv (q43))]) (fun q43 g43 => []) .nil h 7 rfl (fun q43 g43 h => ?_) (fun J44 h hJ44 => ?_)
       ·
        refine rnf ?_
        refine w_J (ι := GPar) (γ := Tok × Tok) (fun q49 g49 => []) (fun q49 g49 => [boxE b_a_x ((q49.l, q49.at_, (q49.m.name, q49.m.tagging, (TList.mk g49.1 q49.m.names), (TList.mk g49.2 q49.m.types), (Vh.mk v24 q49.m.nodes.length)), q49.e, q49.p) : ((List GTok) × Int × (Str × Int × (TList Str) × (TList Int) × Vh) × Int × Int)), tokE g49.1, tokE g49.2, vecE v24 (q49.m.nodes : List GNode)]) (.cons .here (.cons .here (.cons .here (.cons .here .nil)))) h (fun q49 g49 h => ?_) (fun J50 h hJ50 => ?_)
        ·
         refine wsr ?_
         refine oV (v_move rfl) ?_
         refine cal_inv h fun y54 hy54 h => ?_
         refine oT (t_call (r05_parser_must_w hy54) hT (.same rfl (.same rfl .nil)) (.cons .here (.cons .here (.cons .here (.cons .here .nil)))) (fun R H' hR => ?_))
         obtain ⟨t55, t56, rfl, rfl⟩ := hR
         refine rnf ?_
         refine wsr ?_
         refine oV (v_move rfl) ?_
         refine oV (v_build (z := (GMark.mk true y40.1 (0 : Int))) rfl bu131 ze131 (.cons GMark.f0 fd131_0 rfl (fun _ _ h => h) (.cons GMark.f1 fd131_1 rfl (fun _ _ h => h) .nil))) ?_
         refine oV (v_fa rfl pt133_0_2 fd133_2) ?_
         refine oT (t_storeC (y' := (((0 : Int), (Str.mk []), (GMark.mk true y40.1 (0 : Int)), (GCon.mk false false false false (0 : Int) (0 : Int)), (TList.mk none ([] : (List GItem))), (TList.mk none ([] : (List GFld))), (0 : Int), false, (0 : Int)) : (Int × Str × GMark × GCon × (TList GItem) × (TList GFld) × Int × Bool × Int))) ty131 rfl rfl (fun _ _ h => h) (.there (.there (.there (.there .here)))) rfl ?_)
         refine rnf ?_
         refine wsr ?_
         refine oV (v_move rfl) ?_
         refine cal_inv h fun y57 hy57 h => ?_
         refine oT (t_call (r05_parser_is_w hy57) hT (.same rfl (.same rfl .nil)) (.cons (.there .here) (.cons (.there .here) (.cons (.there .here) (.cons (.there .here) .nil)))) (fun R H' hR => ?_))
         obtain ⟨t58, t59, rfl, rfl⟩ := hR
         refine rnf ?_
         refine w_condM h rfl (fun _ h => ?_) (fun _ h => ?_)
         ·
          refine w_region ?_
          refine oV (v_fa rfl pt133_0_2 fd133_2) ?_
          refine oV (v_fa rfl GMark.f2 fd131_2) ?_
          refine oT (t_storeC (y' := (((0 : Int), (Str.mk []), (GMark.mk true y40.1 (1 : Int)), (GCon.mk false false false false (0 : Int) (0 : Int)), (TList.mk none ([] : (List GItem))), (TList.mk none ([] : (List GFld))), (0 : Int), false, (0 : Int)) : (Int × Str × GMark × GCon × (TList GItem) × (TList GFld) × Int × Bool × Int))) ty3 rfl rfl (fun _ _ h => h) (.there (.there (.there (.there .here)))) rfl ?_)
          refine rl_nil ?_
          exact hJ35 _ (t58, t59, none, none) h _ (join_imp 23 rfl rfl mod_nil (.cons (.there .here) (.cons (.there .here) (.cons (.there .here) (.cons (.there .here) (.cons .here (.cons (.there .here) (.cons .here (.cons .here (.cons .here .nil))))))))))
         ·
          refine wsr ?_
          refine oV (v_move rfl) ?_
          refine cal_inv h fun y60 hy60 h => ?_
          refine oT (t_call (r05_parser_is_w hy60) hT (.same rfl (.same rfl .nil)) (.cons .here (.cons .here (.cons .here (.cons .here .nil)))) (fun R H' hR => ?_))
          obtain ⟨t61, t62, rfl, rfl⟩ := hR
          refine rnf ?_
          refine w_condM h rfl (fun _ h => ?_) (fun _ h => ?_)
          ·
           refine w_region ?_
           refine oV (v_fa rfl pt133_0_2 fd133_2) ?_
           refine oV (v_fa rfl GMark.f2 fd131_2) ?_
           refine oT (t_storeC (y' := (((0 : Int), (Str.mk []), (GMark.mk true y40.1 (2 : Int)), (GCon.mk false false false false (0 : Int) (0 : Int)), (TList.mk none ([] : (List GItem))), (TList.mk none ([] : (List GFld))), (0 : Int), false, (0 : Int)) : (Int × Str × GMark × GCon × (TList GItem) × (TList GFld) × Int × Bool × Int))) ty3 rfl rfl (fun _ _ h => h) (.there (.there (.there (.there .here)))) rfl ?_)
           refine rl_nil ?_
           exact hJ35 _ (t61, t62, none, none) h _ (join_imp 25 rfl rfl mod_nil (.cons (.there .here) (.cons (.there .here) (.cons (.there .here) (.cons (.there .here) (.cons .here (.cons (.there .here) (.cons .here (.cons .here (.cons .here .nil))))))))))
          ·
           refine w_skip ?_
           exact hJ35 _ (t61, t62, none, none) h _ (join_imp 23 rfl rfl mod_nil (.cons .here (.cons .here (.cons .here (.cons .here (.cons .here (.cons (.there .here) (.cons .here (.cons .here (.cons .here .nil))))))))))
        ·
         refine w_condM h rfl (fun _ h => ?_) (fun _ h => ?_)
         ·
          refine w_region ?_
          refine oV (v_move rfl) ?_
          refine oV (v_loadI ty105 rfl) ?_
          refine cal_inv h fun y51 hy51 h => ?_
          refine oT (t_call (r05_parser_fail_w hy51) hT (.same rfl (.same rfl (.same rfl .nil))) (.cons .here (.cons .here (.cons .here (.cons .here .nil)))) (fun R H' hR => ?_))
          obtain ⟨t52, t53, rfl, rfl⟩ := hR
          refine rl_nil ?_
          exact hJ50 _ (t52, t53) h _ (join_imp 3 rfl rfl mod_nil (.cons .here (.cons .here (.cons .here (.cons .here (.cons .here (.cons .here (.cons .here (.cons .here (.cons .here .nil))))))))))
         ·
          refine w_skip ?_
          exact hJ50 _ (t41, t42) h _ (join_imp 0 rfl rfl mod_nil (.cons .here (.cons .here (.cons .here (.cons .here (.cons .here (.cons .here (.cons .here (.cons .here (.cons .here .nil))))))))))
       ·
        refine rl_condM (j := 67) h rfl (fun g45 h => ?_) (fun g45 h => ?_)
        ·
         refine op_take rfl rfl (dj := 67) rfl g45 (OpV.t (v_move rfl) ?_)
         refine op_take rfl rfl (dj := 67) rfl g45 (OpV.t (v_lss rfl rfl) ?_)
         refine op_take rfl rfl (dj := 67) rfl g45 (OpV.t (v_move rfl) ?_)
         refine rl_j (ι := Bool) (γ := Unit) (fun q46 g46 => [(73, isv (q46))]) (fun q46 g46 => []) .nil h 3 rfl (fun q46 g46 h => ?_) (fun J47 h hJ47 => ?_)
         ·
          refine oV (v_pick_t rfl g45 rfl) ?_
          exact hJ44 _ () h _ (join_imp 5 rfl rfl (mod_cons (j := 74) rfl (fun _ _ h => h) mod_nil) (.cons .here (.cons .here (.cons .here (.cons .here (.cons .here (.cons .here (.cons .here (.cons .here (.cons .here .nil))))))))))
         ·
          refine rl_condM (j := 70) h rfl (fun g48 h => ?_) (fun g48 h => ?_)
          ·
           refine op_pass rfl (dj := 70) rfl g48 ?_
           refine op_pass rfl (dj := 70) rfl g48 ?_
           refine op_take rfl rfl (dj := 67) rfl g45 (OpV.t (v_pick_t rfl g48 rfl) ?_)
           exact hJ47 _ () h _ (join_imp 3 rfl rfl (mod_cons (j := 73) rfl (fun _ _ h => h) mod_nil) (.cons .here (.cons .here (.cons .here (.cons .here (.cons .here (.cons .here (.cons .here (.cons .here (.cons .here .nil))))))))))
          ·
           refine op_take rfl rfl (dj := 70) rfl g48 (OpV.t (v_move rfl) ?_)
           refine op_take rfl rfl (dj := 70) rfl g48 (OpV.t (v_gtr rfl rfl) ?_)
           refine op_take rfl rfl (dj := 67) rfl g45 (OpV.t (v_pick_f rfl g48 rfl) ?_)
           exact hJ47 _ () h _ (join_imp 3 rfl rfl (mod_cons (j := 73) rfl (fun _ _ h => h) mod_nil) (.cons .here (.cons .here (.cons .here (.cons .here (.cons .here (.cons .here (.cons .here (.cons .here (.cons .here .nil))))))))))
        ·
         refine op_pass rfl (dj := 67) rfl g45 ?_
         refine op_pass rfl (dj := 67) rfl g45 ?_
         refine op_pass rfl (dj := 67) rfl g45 ?_
         refine op_passU rfl (dj := 70) rfl ?_
         refine op_passU rfl (dj := 70) rfl ?_
         refine op_pass rfl (dj := 67) rfl g45 ?_
         refine oV (v_pick_f rfl g45 rfl) ?_
         exact hJ44 _ () h _ (join_imp 7 rfl rfl (mod_cons (j := 74) rfl (fun _ _ h => h) mod_nil) (.cons .here (.cons .here (.cons .here (.cons .here (.cons .here (.cons .here (.cons .here (.cons .here (.cons .here .nil))))))))))
      ·
       refine w_skip ?_
       exact hJ35 _ (t32, t33, none, none) h _ (join_imp 0 rfl rfl mod_nil (.cons .here (.cons .here (.cons .here (.cons .here (.cons .here (.cons (.there .here) (.cons .here (.cons .here (.cons .here .nil))))))))))
   ·
    refine rl_condM (j := 24) h rfl (fun g16 h => ?_) (fun g16 h => ?_)
    ·
     refine op_pass rfl (dj := 24) rfl g16 ?_
     refine op_pass rfl (dj := 24) rfl g16 ?_
     refine op_pass rfl (dj := 24) rfl g16 ?_
     refine op_pass rfl (dj := 24) rfl g16 ?_
     refine op_pass rfl (dj := 24) rfl g16 ?_
     refine op_pass rfl (dj := 24) rfl g16 ?_
     refine op_pass rfl (dj := 24) rfl g16 ?_
     refine oV (v_pick_t rfl g16 rfl) ?_
     exact hJ15 _ () h _ (join_imp 8 rfl rfl (mod_cons (j := 32) rfl (fun _ _ h => h) mod_nil) (.cons .here (.cons .here (.cons .here (.cons .here .nil)))))
    ·
     refine op_take rfl rfl (dj := 24) rfl g16 (OpV.t (v_move rfl) ?_)
     refine op_take rfl rfl (dj := 24) rfl g16 (OpV.t (v_nilCheck rfl) ?_)
     refine op_take rfl rfl (dj := 24) rfl g16 (OpV.t (v_fa rfl pt101_0_2 fd101_2) ?_)
     refine op_take rfl rfl (dj := 24) rfl g16 (OpV.t (v_fa rfl pt75_0_4 fd75_4) ?_)
     refine op_take rfl rfl (dj := 24) rfl g16 (t_loadC (R := vecv v_a_x3 (y4.2.m.nodes.length)) ty73 rfl .here isvV1 ?_)
     refine op_take rfl rfl (dj := 24) rfl g16 (OpV.t (v_vlen sl73 rfl) ?_)
     refine op_take rfl rfl (dj := 24) rfl g16 (OpV.t (v_geq rfl rfl) ?_)
     refine oV (v_pick_f rfl g16 rfl) ?_
     exact hJ15 _ () h _ (join_imp 8 rfl rfl (mod_cons (j := 32) rfl (fun _ _ h => h) mod_nil) (.cons .here (.cons .here (.cons .here (.cons .here .nil)))))

theorem r05_parser_base_w0 {r05_parser_field' : GPar → GNode → Int → Int → Option (GPar × GNode)} {r05_parser_typ' : GPar → Int → Option (Int × GPar)} {r05_parser_base' : GPar → GNode → Int → Option (GPar × GNode)} {r05_parser_fields' : GPar → GNode → Int → Option (GPar × GNode)} (h_r05_parser_field : r05_parser_field_C r05_parser_field') (h_r05_parser_typ : r05_parser_typ_C r05_parser_typ') (h_r05_parser_base : r05_parser_base_C r05_parser_base') (h_r05_parser_fields : r05_parser_fields_C r05_parser_fields') : ∀ {a_x : GPar} {a_n_ : GNode} {a_depth : Int} {b_a_x : Nat} {t_a_x1 : Tok} {t_a_x2 : Tok} {v_a_x3 : Vt} {b_a_n_ : Nat} {t_a_n_4 : Tok} {t_a_n_5 : Tok} {r : GPar × GNode}, r05_parser_base_F r05_parser_field' r05_parser_typ' r05_parser_base' r05_parser_fields' a_x a_n_ a_depth = some r → Ctr Tryd.prog 80 [ptrv b_a_x (Fld.id ((List GTok) × Int × (Str × Int × (TList Str) × (TList Int) × Vh) × Int × Int)), ptrv b_a_n_ (Fld.id (Int × Str × GMark × GCon × (TList GItem) × (TList GFld) × Int × Bool × Int)), isv (a_depth)] [boxE b_a_x ((a_x.l, a_x.at_, (a_x.m.name, a_x.m.tagging, (TList.mk t_a_x1 a_x.m.names), (TList.mk t_a_x2 a_x.m.types), (Vh.mk v_a_x3 a_x.m.nodes.length)), a_x.e, a_x.p) : ((List GTok) × Int × (Str × Int × (TList Str) × (TList Int) × Vh) × Int × Int)), tokE t_a_x1, tokE t_a_x2, vecE v_a_x3 (a_x.m.nodes : List GNode), boxE b_a_n_ ((a_n_.kind, a_n_.name, a_n_.mark, a_n_.con, (TList.mk t_a_n_4 a_n_.items), (TList.mk t_a_n_5 a_n_.fields), a_n_.root, a_n_.more, a_n_.of) : (Int × Str × GMark × GCon × (TList GItem) × (TList GFld) × Int × Bool × Int)), tokE t_a_n_4, tokE t_a_n_5] (fun R H => ∃ u1 : Tok, ∃ u2 : Tok, ∃ u3 : Vt, ∃ u4 : Tok, ∃ u5 : Tok, R = oneOf [] ∧ H = [boxE b_a_x ((r.1.l, r.1.at_, (r.1.m.name, r.1.m.tagging, (TList.mk u1 r.1.m.names), (TList.mk u2 r.1.m.types), (Vh.mk u3 r.1.m.nodes.length)), r.1.e, r.1.p)), tokE u1, tokE u2, vecE u3 (r.1.m.nodes), boxE b_a_n_ ((r.2.kind, r.2.name, r.2.mark, r.2.con, (TList.mk u4 r.2.items), (TList.mk u5 r.2.fields), r.2.root, r.2.more, r.2.of)), tokE u4, tokE u5]) := by
 intro a_x a_n_ a_depth b_a_x t_a_x1 t_a_x2 v_a_x3 b_a_n_ t_a_n_4 t_a_n_5 r h
 unfold r05_parser_base_F at h
 refine spec_intro Tryd.func80 rfl (by decide +kernel) (by rfl) fun w0 S0 hT => ?_
 refine wsr ?_
 refine oV (v_move rfl) ?_
 refine cal_inv h fun y6 hy6 h => ?_
 refine oT (t_call (r05_parser_now_w hy6) hT (.same rfl .nil) (.cons .here (.cons .here (.cons .here (.cons .here .nil)))) (fun R H' hR => ?_))
 obtain ⟨t7, t8, rfl, rfl⟩ := hR
 refine oT (t_alloc _ ze105 fun b9 => ?_)
 refine oT (t_storeC (y' := (y6.1 : GTok)) ty105 rfl rfl (fun _ _ h => h) .here rfl ?_)
 refine rl_upd (upd_imm 6 .here rfl) ?_
 refine rnf ?_
 refine w_block ?_
 refine wsr ?_
 refine oV (v_move rfl) ?_
 refine oV (v_nilCheck rfl) ?_
 refine oV (v_fa rfl pt101_0_3 fd101_3) ?_
 refine oT (t_loadC (R := isv (y6.2.e)) ty30 rfl .here (fun _ _ h => h) ?_)
 refine oV (v_neq rfl rfl) ?_
 refine oV (v_assign rfl) ?_
 refine rnf ?_
 refine w_condM h rfl (fun _ h => ?_) (fun _ h => ?_)
 ·
  refine w_skip ?_
  refine fin_block ?_
  refine fin_post .nil (.cons .here (.cons .here (.cons .here (.cons .here (.cons .here (.cons .here (.cons .here .nil))))))) ?_
  obtain rfl := Option.some.inj h
  exact ⟨t7, t8, v_a_x3, t_a_n_4, t_a_n_5, rfl, rfl⟩
 ·
  refine wsr ?_
  refine oV (v_move rfl) ?_
  refine cal_inv h fun y10 hy10 h => ?_
  refine oT (t_call (r05_parser_is_w hy10) hT (.same rfl (.same rfl .nil)) (.cons .here (.cons .here (.cons .here (.cons .here .nil)))) (fun R H' hR => ?_))
  obtain ⟨t11, t12, rfl, rfl⟩ := hR
  refine oV (v_assign rfl) ?_
  refine rnf ?_
  refine w_condM h rfl (fun _ h => ?_) (fun _ h => ?_)
  ·
   refine w_region ?_
   refine oV (v_move rfl) ?_
   refine oV (v_nilCheck rfl) ?_
   refine oV (v_fa rfl pt133_0_0 fd133_0) ?_
   refine oT (t_storeC (y' := (((1 : Int), a_n_.name, a_n_.mark, a_n_.con, (TList.mk t_a_n_4 a_n_.items), (TList.mk t_a_n_5 a_n_.fields), a_n_.root, a_n_.more, a_n_.of) : (Int × Str × GMark × GCon × (TList GItem) × (TList GFld) × Int × Bool × Int))) ty3 rfl rfl (fun _ _ h => h) (.there (.there (.there (.there .here)))) rfl ?_)
   refine rl_nil ?_
   refine fin_block ?_
   refine fin_post .nil (.cons (.there .here) (.cons (.there .here) (.cons (.there .here) (.cons (.there .here) (.cons .here (.cons .here (.cons .here .nil))))))) ?_
   obtain rfl := Option.some.inj h
   exact ⟨t11, t12, v_a_x3, t_a_n_4, t_a_n_5, rfl, rfl⟩
  ·
   refine wsr ?_
   refine oV (v_move rfl) ?_
   refine cal_inv h fun y13 hy13 h => ?_
   refine oT (t_call (r05_parser_is_w hy13) hT (.same rfl (.same rfl .nil)) (.cons .here (.cons .here (.cons .here (.cons .here .nil)))) (fun R H' hR => ?_))
   obtain ⟨t14, t15, rfl, rfl⟩ := hR
   refine oV (v_assign rfl) ?_
   refine rnf ?_
   refine w_condM h rfl (fun _ h => ?_) (fun _ h => ?_)
   ·
    refine w_region ?_
    refine oV (v_move rfl) ?_
    refine oV (v_nilCheck rfl) ?_
    refine oV (v_fa rfl pt133_0_0 fd133_0) ?_
    refine oT (t_storeC (y' := (((4 : Int), a_n_.name, a_n_.mark, a_n_.con, (TList.mk t_a_n_4 a_n_.items), (TList.mk t_a_n_5 a_n_.fields), a_n_.root, a_n_.more, a_n_.of) : (Int × Str × GMark × GCon × (TList GItem) × (TList GFld) × Int × Bool × Int))) ty3 rfl rfl (fun _ _ h => h) (.there (.there (.there (.there .here)))) rfl ?_)
    refine rl_nil ?_
    refine fin_block ?_
    refine fin_post .nil (.cons (.there .here) (.cons (.there .here) (.cons (.there .here) (.cons (.there .here) (.cons .here (.cons .here (.cons .here .nil))))))) ?_
    obtain rfl := Option.some.inj h
    exact ⟨t14, t15, v_a_x3, t_a_n_4, t_a_n_5, rfl, rfl⟩
   ·
    refine wsr ?_
    refine oV (v_move rfl) ?_
    refine cal_inv h fun y16 hy16 h => ?_
    refine oT (t_call (r05_parser_is_w hy16) hT (.same rfl (.same rfl .nil)) (.cons .here (.cons .here (.cons .here (.cons .here .nil)))) (fun R H' hR => ?_))
    obtain ⟨t17, t18, rfl, rfl⟩ := hR
    refine oV (v_assign rfl) ?_
    refine rnf ?_
    refine w_condM h rfl (fun _ h => ?_) (fun _ h => ?_)
    ·
     refine wsr ?_
     refine oV (v_move rfl) ?_
     refine oV (v_nilCheck rfl) ?_
     refine oV (v_fa rfl pt133_0_0 fd133_0) ?_
     refine oT (t_storeC (y' := (((6 : Int), a_n_.name, a_n_.mark, a_n_.con, (TList.mk t_a_n_4 a_n_.items), (TList.mk t_a_n_5 a_n_.fields), a_n_.root, a_n_.more, a_n_.of) : (Int × Str × GMark × GCon × (TList GItem) × (TList GFld) × Int × Bool × Int))) ty3 rfl rfl (fun _ _ h => h) (.there (.there (.there (.there .here)))) rfl ?_)
     refine rnf ?_
     refine w_region ?_
     refine oV (v_move rfl) ?_
     refine oV (v_move rfl) ?_
     refine cal_inv h fun y19 hy19 h => ?_
     refine oT (t_call (r05_parser_size_w hy19) hT (.same rfl .nil) (.cons (.there .here) (.cons (.there .here) (.cons (.there .here) (.cons (.there .here) .nil)))) (fun R H' hR => ?_))
     obtain ⟨t20, t21, rfl, rfl⟩ := hR
     refine oV (v_nilCheck rfl) ?_
     refine oV (v_fa rfl pt133_0_3 fd133_3) ?_
     refine oT (t_storeC (y' := (((6 : Int), a_n_.name, a_n_.mark, y19.1, (TList.mk t_a_n_4 a_n_.items), (TList.mk t_a_n_5 a_n_.fields), a_n_.root, a_n_.more, a_n_.of) : (Int × Str × GMark × GCon × (TList GItem) × (TList GFld) × Int × Bool × Int))) ty54 rfl rfl (fun _ _ h => h) (.there (.there (.there (.there .here)))) rfl ?_)
     refine rl_nil ?_
     refine fin_block ?_
     refine fin_post .nil (.cons (.there .here) (.cons (.there .here) (.cons (.there .here) (.cons (.there .here) (.cons .here (.cons .here (.cons .here .nil))))))) ?_
     obtain rfl := Option.some.inj h
     exact ⟨t20, t21, v_a_x3, t_a_n_4, t_a_n_5, rfl, rfl⟩
    ·
     refine wsr ?_
     refine oV (v_move rfl) ?_
     refine cal_inv h fun y22 hy22 h => ?_
     refine oT (t_call (r05_parser_is_w hy22) hT (.same rfl (.same rfl .nil)) (.cons .here (.cons .here (.cons .here (.cons .here .nil)))) (fun R H' hR => ?_))
     obtain ⟨t23, t24, rfl, rfl⟩ := hR
     refine oV (v_assign rfl) ?_
     refine rnf ?_
     refine w_condM h rfl (fun _ h => ?_) (fun _ h => ?_)
     ·
      refine wsr ?_
      refine oV (v_move rfl) ?_
      refine oV (v_nilCheck rfl) ?_
      refine oV (v_fa rfl pt133_0_0 fd133_0) ?_
      refine oT (t_storeC (y' := (((2 : Int), a_n_.name, a_n_.mark, a_n_.con, (TList.mk t_a_n_4 a_n_.items), (TList.mk t_a_n_5 a_n_.fields), a_n_.root, a_n_.more, a_n_.of) : (Int × Str × GMark × GCon × (TList GItem) × (TList GFld) × Int × Bool × Int))) ty3 rfl rfl (fun _ _ h => h) (.there (.there (.there (.there .here)))) rfl ?_)
      refine rnf ?_
      refine wsr ?_
      refine oV (v_move rfl) ?_
      refine cal_inv h fun y25 hy25 h => ?_
      refine oT (t_call (r05_parser_is_w hy25) hT (.same rfl (.same rfl .nil)) (.cons (.there .here) (.cons (.there .here) (.cons (.there .here) (.cons (.there .here) .nil)))) (fun R H' hR => ?_))
      obtain ⟨t26, t27, rfl, rfl⟩ := hR
      refine rnf ?_
      refine w_condM h rfl (fun _ h => ?_) (fun _ h => ?_)
      ·
       refine wsr ?_
       refine oV (v_move rfl) ?_
       refine oV (v_move rfl) ?_
       refine cal_inv h fun y28 hy28 h => ?_
       refine oT (t_call (r05_parser_bounds_w hy28) hT (.same rfl .nil) (.cons .here (.cons .here (.cons .here (.cons .here .nil)))) (fun R H' hR => ?_))
       obtain ⟨t29, t30, rfl, rfl⟩ := hR
       refine oV (v_nilCheck rfl) ?_
       refine oV (v_fa rfl pt133_0_3 fd133_3) ?_
       refine oT (t_storeC (y' := (((2 : Int), a_n_.name, a_n_.mark, y28.1, (TList.mk t_a_n_4 a_n_.items), (TList.mk t_a_n_5 a_n_.fields), a_n_.root, a_n_.more, a_n_.of) : (Int × Str × GMark × GCon × (TList GItem) × (TList GFld) × Int × Bool × Int))) ty54 rfl rfl (fun _ _ h => h) (.there (.there (.there (.there .here)))) rfl ?_)
       refine rnf ?_
       refine w_region ?_
       refine oV (v_move rfl) ?_
       refine cal_inv h fun y31 hy31 h => ?_
       refine oT (t_call (r05_parser_must_w hy31) hT (.same rfl (.same rfl .nil)) (.cons (.there .here) (.cons (.there .here) (.cons (.there .here) (.cons (.there .here) .nil)))) (fun R H' hR => ?_))
       obtain ⟨t32, t33, rfl, rfl⟩ := hR
       refine rl_nil ?_
       refine fin_block ?_
       refine fin_post .nil (.cons .here (.cons .here (.cons .here (.cons .here (.cons .here (.cons .here (.cons .here .nil))))))) ?_
       obtain rfl := Option.some.inj h
       exact ⟨t32, t33, v_a_x3, t_a_n_4, t_a_n_5, rfl, rfl⟩
      ·
       refine w_skip ?_
       refine fin_block ?_
       refine fin_post .nil (.cons .here (.cons .here (.cons .here (.cons .here (.cons .here (.cons .here (.cons .here .nil))))))) ?_
       obtain rfl := Option.some.inj h
       exact ⟨t26, t27, v_a_x3, t_a_n_4, t_a_n_5, rfl, rfl⟩
     ·
      refine wsr ?_
      refine oV (v_move rfl) ?_
      refine cal_inv h fun y34 hy34 h => ?_
      refine oT (t_call (r05_parser_is_w hy34) hT (.same rfl (.same rfl .nil)) (.cons .here (.cons .here (.cons .here (.cons .here .nil)))) (fun R H' hR => ?_))
      obtain ⟨t35, t36, rfl, rfl⟩ := hR
      refine oV (v_assign rfl) ?_
      refine rnf ?_
      refine w_condM h rfl (fun _ h => ?_) (fun _ h => ?_)
      ·
       refine wsr ?_
       refine oV (v_move rfl) ?_
       refine cal_inv h fun y37 hy37 h => ?_
       refine oT (t_call (r05_parser_must_w hy37) hT (.same rfl (.same rfl .nil)) (.cons .here (.cons .here (.cons .here (.cons .here .nil)))) (fun R H' hR => ?_))
       obtain ⟨t38, t39, rfl, rfl⟩ := hR
       refine rnf ?_
       refine wsr ?_
       refine oV (v_move rfl) ?_
       refine oV (v_nilCheck rfl) ?_
       refine oV (v_fa rfl pt133_0_0 fd133_0) ?_
       refine oT (t_storeC (y' := (((5 : Int), a_n_.name, a_n_.mark, a_n_.con, (TList.mk t_a_n_4 a_n_.items), (TList.mk t_a_n_5 a_n_.fields), a_n_.root, a_n_.more, a_n_.of) : (Int × Str × GMark × GCon × (TList GItem) × (TList GFld) × Int × Bool × Int))) ty3 rfl rfl (fun _ _ h => h) (.there (.there (.there (.there .here)))) rfl ?_)
       refine rnf ?_
       refine w_region ?_
       refine oV (v_move rfl) ?_
       refine oV (v_move rfl) ?_
       refine cal_inv h fun y40 hy40 h => ?_
       refine oT (t_call (r05_parser_size_w hy40) hT (.same rfl .nil) (.cons (.there .here) (.cons (.there .here) (.cons (.there .here) (.cons (.there .here) .nil)))) (fun R H' hR => ?_))
       obtain ⟨t41, t42, rfl, rfl⟩ := hR
       refine oV (v_nilCheck rfl) ?_
       refine oV (v_fa rfl pt133_0_3 fd133_3) ?_
       refine oT (t_storeC (y' := (((5 : Int), a_n_.name, a_n_.mark, y40.1, (TList.mk t_a_n_4 a_n_.items), (TList.mk t_a_n_5 a_n_.fields), a_n_.root, a_n_.more, a_n_.of) : (Int × Str × GMark × GCon × (TList GItem) × (TList GFld) × Int × Bool × Int))) ty54 rfl rfl (fun _ _ h => h) (.there (.there (.there (.there .here)))) rfl ?_)
       refine rl_nil ?_
       refine fin_block ?_
       refine fin_post .nil (.cons (.there .here) (.cons (.there .here) (.cons (.there .here) (.cons (.there .here) (.cons .here (.cons .here (.cons .here .nil))))))) ?_
       obtain rfl := Option.some.inj h
       exact ⟨t41, t42, v_a_x3, t_a_n_4, t_a_n_5, rfl, rfl⟩
      ·
       refine wsr ?_
       refine oV (v_move rfl) ?_
       refine cal_inv h fun y43 hy43 h => ?_
       refine oT (t_call (r05_parser_is_w hy43) hT (.same rfl (.same rfl .nil)) (.cons .here (.cons .here (.cons .here (.cons .here .nil)))) (fun R H' hR => ?_))
       obtain ⟨t44, t45, rfl, rfl⟩ := hR
       refine oV (v_assign rfl) ?_
       refine rnf ?_
       refine w_condM h rfl (fun _ h => ?_) (fun _ h => ?_)
       ·
        refine wsr ?_
        refine oV (v_move rfl) ?_
        refine oV (v_nilCheck rfl) ?_
        refine oV (v_fa rfl pt133_0_0 fd133_0) ?_
        refine oT (t_storeC (y' := (((3 : Int), a_n_.name, a_n_.mark, a_n_.con, (TList.mk t_a_n_4 a_n_.items), (TList.mk t_a_n_5 a_n_.fields), a_n_.root, a_n_.more, a_n_.of) : (Int × Str × GMark × GCon × (TList GItem) × (TList GFld) × Int × Bool × Int))) ty3 rfl rfl (fun _ _ h => h) (.there (.there (.there (.there .here)))) rfl ?_)
        refine rnf ?_
        refine wsr ?_
        refine oV (v_move rfl) ?_
        refine cal_inv h fun y46 hy46 h => ?_
        refine oT (t_call (r05_parser_must_w hy46) hT (.same rfl (.same rfl .nil)) (.cons (.there .here) (.cons (.there .here) (.cons (.there .here) (.cons (.there .here) .nil)))) (fun R H' hR => ?_))
        obtain ⟨t47, t48, rfl, rfl⟩ := hR
        refine rnf ?_
        refine wsr ?_
        refine oV (v_move rfl) ?_
        refine oV (v_move rfl) ?_
        refine cal_inv h fun y49 hy49 h => ?_
        refine oT (t_call (r05_parser_items_w hy49) hT (.same rfl (.same rfl .nil)) (.cons .here (.cons .here (.cons .here (.cons .here (.cons .here (.cons .here (.cons .here .nil))))))) (fun R H' hR => ?_))
        obtain ⟨t50, t51, t52, t53, rfl, rfl⟩ := hR
        refine rnf ?_
        refine w_region ?_
        refine oV (v_move rfl) ?_
        refine cal_inv h fun y54 hy54 h => ?_
        refine oT (t_call (r05_parser_must_w hy54) hT (.same rfl (.same rfl .nil)) (.cons .here (.cons .here (.cons .here (.cons .here .nil)))) (fun R H' hR => ?_))
        obtain ⟨t55, t56, rfl, rfl⟩ := hR
        refine rl_nil ?_
        refine fin_block ?_
        refine fin_post .nil (.cons .here (.cons .here (.cons .here (.cons .here (.cons .here (.cons .here (.cons .here .nil))))))) ?_
        obtain rfl := Option.some.inj h
        exact ⟨t55, t56, v_a_x3, t52, t53, rfl, rfl⟩
       ·
        refine wsr ?_
        refine oV (v_move rfl) ?_
        refine cal_inv h fun y57 hy57 h => ?_
        refine oT (t_call (r05_parser_is_w hy57) hT (.same rfl (.same rfl .nil)) (.cons .here (.cons .here (.cons .here (.cons .here .nil)))) (fun R H' hR => ?_))
        obtain ⟨t58, t59, rfl, rfl⟩ := hR
        refine oV (v_assign rfl) ?_
        refine rnf ?_
        refine w_condM h rfl (fun _ h => ?_) (fun _ h => ?_)
        ·
         refine wsr ?_
         refine oV (v_move rfl) ?_
         refine oV (v_nilCheck rfl) ?_
         refine oV (v_fa rfl pt133_0_0 fd133_0) ?_
         refine oT (t_storeC (y' := (((8 : Int), a_n_.name, a_n_.mark, a_n_.con, (TList.mk t_a_n_4 a_n_.items), (TList.mk t_a_n_5 a_n_.fields), a_n_.root, a_n_.more, a_n_.of) : (Int × Str × GMark × GCon × (TList GItem) × (TList GFld) × Int × Bool × Int))) ty3 rfl rfl (fun _ _ h => h) (.there (.there (.there (.there .here)))) rfl ?_)
         refine rnf ?_
         refine wsr ?_
         refine oV (v_move rfl) ?_
         refine cal_inv h fun y60 hy60 h => ?_
         refine oT (t_call (r05_parser_must_w hy60) hT (.same rfl (.same rfl .nil)) (.cons (.there .here) (.cons (.there .here) (.cons (.there .here) (.cons (.there .here) .nil)))) (fun R H' hR => ?_))
         obtain ⟨t61, t62, rfl, rfl⟩ := hR
         refine rnf ?_
         refine w_region ?_
         refine oV (v_move rfl) ?_
         refine oV (v_move rfl) ?_
         refine oV (v_move rfl) ?_
         refine cal_inv h fun y63 hy63 h => ?_
         refine oT (t_call (h_r05_parser_fields hy63) hT (.same rfl (.same rfl (.same rfl .nil))) (.cons .here (.cons .here (.cons .here (.cons .here (.cons .here (.cons .here (.cons .here .nil))))))) (fun R H' hR => ?_))
         obtain ⟨t64, t65, v66, t67, t68, rfl, rfl⟩ := hR
         refine rl_nil ?_
         refine fin_block ?_
         refine fin_post .nil (.cons .here (.cons .here (.cons .here (.cons .here (.cons .here (.cons .here (.cons .here .nil))))))) ?_
         obtain rfl := Option.some.inj h
         exact ⟨t64, t65, v66, t67, t68, rfl, rfl⟩
        ·
         refine wsr ?_
         refine oV (v_move rfl) ?_
         refine cal_inv h fun y69 hy69 h => ?_
         refine oT (t_call (r05_parser_is_w hy69) hT (.same rfl (.same rfl .nil)) (.cons .here (.cons .here (.cons .here (.cons .here .nil)))) (fun R H' hR => ?_))
         obtain ⟨t70, t71, rfl, rfl⟩ := hR
         refine oV (v_assign rfl) ?_
         refine rnf ?_
         refine w_condM h rfl (fun _ h => ?_) (fun _ h => ?_)
         ·
          refine wsr ?_
          refine oV (v_move rfl) ?_
          refine oV (v_nilCheck rfl) ?_
          refine oV (v_fa rfl pt133_0_0 fd133_0) ?_
          refine oT (t_storeC (y' := (((9 : Int), a_n_.name, a_n_.mark, a_n_.con, (TList.mk t_a_n_4 a_n_.items), (TList.mk t_a_n_5 a_n_.fields), a_n_.root, a_n_.more, a_n_.of) : (Int × Str × GMark × GCon × (TList GItem) × (TList GFld) × Int × Bool × Int))) ty3 rfl rfl (fun _ _ h => h) (.there (.there (.there (.there .here)))) rfl ?_)
          refine rnf ?_
          refine wsr ?_
          refine oV (v_move rfl) ?_
          refine cal_inv h fun y72 hy72 h => ?_
          refine oT (t_call (r05_parser_must_w hy72) hT (.same rfl (.same rfl .nil)) (.cons (.there .here) (.cons (.there .here) (.cons (.there .here) (.cons (.there .here) .nil)))) (fun R H' hR => ?_))
          obtain ⟨t73, t74, rfl, rfl⟩ := hR
          refine rnf ?_
          refine w_region ?_
          refine oV (v_move rfl) ?_
          refine oV (v_move rfl) ?_
          refine oV (v_move rfl) ?_
          refine cal_inv h fun y75 hy75 h => ?_
          refine oT (t_call (h_r05_parser_fields hy75) hT (.same rfl (.same rfl (.same rfl .nil))) (.cons .here (.cons .here (.cons .here (.cons .here (.cons .here (.cons .here (.cons .here .nil))))))) (fun R H' hR => ?_))
          obtain ⟨t76, t77, v78, t79, t80, rfl, rfl⟩ := hR
          refine rl_nil ?_
          refine fin_block ?_
          refine fin_post .nil (.cons .here (.cons .here (.cons .here (.cons .here (.cons .here (.cons .here (.cons .here .nil))))))) ?_
          obtain rfl := Option.some.inj h
          exact ⟨t76, t77, v78, t79, t80, rfl, rfl⟩
         ·
          refine wsr ?_
          refine oV (v_move rfl) ?_
          refine cal_inv h fun y81 hy81 h => ?_
          refine oT (t_call (r05_parser_is_w hy81) hT (.same rfl (.same rfl .nil)) (.cons .here (.cons .here (.cons .here (.cons .here .nil)))) (fun R H' hR => ?_))
          obtain ⟨t82, t83, rfl, rfl⟩ := hR
          refine oV (v_assign rfl) ?_
          refine rnf ?_
          refine w_condM h rfl (fun _ h => ?_) (fun _ h => ?_)
          ·
           refine w_seq ?_
           refine wsr ?_
           refine oV (v_move rfl) ?_
           refine cal_inv h fun y84 hy84 h => ?_
           refine oT (t_call (r05_parser_is_w hy84) hT (.same rfl (.same rfl .nil)) (.cons .here (.cons .here (.cons .here (.cons .here .nil)))) (fun R H' hR => ?_))
           obtain ⟨t85, t86, rfl, rfl⟩ := hR
           refine rnf ?_
           refine w_condM h rfl (fun _ h => ?_) (fun _ h => ?_)
           ·
            refine wsr ?_
            refine oV (v_move rfl) ?_
            refine oV (v_nilCheck rfl) ?_
            refine oV (v_fa rfl pt133_0_0 fd133_0) ?_
            refine oT (t_storeC (y' := (((7 : Int), a_n_.name, a_n_.mark, a_n_.con, (TList.mk t_a_n_4 a_n_.items), (TList.mk t_a_n_5 a_n_.fields), a_n_.root, a_n_.more, a_n_.of) : (Int × Str × GMark × GCon × (TList GItem) × (TList GFld) × Int × Bool × Int))) ty3 rfl rfl (fun _ _ h => h) (.there (.there (.there (.there .here)))) rfl ?_)
            refine rnf ?_
            refine wsr ?_
            refine oV (v_move rfl) ?_
            refine oV (v_move rfl) ?_
            refine oV (v_move rfl) ?_
            refine cal_inv h fun y87 hy87 h => ?_
            refine oT (t_call (h_r05_parser_fields hy87) hT (.same rfl (.same rfl (.same rfl .nil))) (.cons (.there .here) (.cons (.there .here) (.cons (.there .here) (.cons (.there .here) (.cons .here (.cons .here (.cons .here .nil))))))) (fun R H' hR => ?_))
            obtain ⟨t88, t89, v90, t91, t92, rfl, rfl⟩ := hR
            refine rnf ?_
            refine w_ret ?_
            refine ret_nxt ?_
            refine ret_block ?_
            refine ret_post .nil (.cons .here (.cons .here (.cons .here (.cons .here (.cons .here (.cons .here (.cons .here .nil))))))) ?_
            obtain rfl := Option.some.inj h
            exact ⟨t88, t89, v90, t91, t92, rfl, rfl⟩
           ·
            refine wkf ?_
            refine wsr ?_
            refine oV (v_move rfl) ?_
            refine oV (v_nilCheck rfl) ?_
            refine oV (v_fa rfl pt133_0_0 fd133_0) ?_
            refine oT (t_storeC (y' := (((10 : Int), a_n_.name, a_n_.mark, a_n_.con, (TList.mk t_a_n_4 a_n_.items), (TList.mk t_a_n_5 a_n_.fields), a_n_.root, a_n_.more, a_n_.of) : (Int × Str × GMark × GCon × (TList GItem) × (TList GFld) × Int × Bool × Int))) ty3 rfl rfl (fun _ _ h => h) (.there (.there (.there (.there .here)))) rfl ?_)
            refine rnf ?_
            refine wsr ?_
            refine oV (v_move rfl) ?_
            refine oV (v_move rfl) ?_
            refine cal_inv h fun y93 hy93 h => ?_
            refine oT (t_call (r05_parser_size_w hy93) hT (.same rfl .nil) (.cons (.there .here) (.cons (.there .here) (.cons (.there .here) (.cons (.there .here) .nil)))) (fun R H' hR => ?_))
            obtain ⟨t94, t95, rfl, rfl⟩ := hR
            refine oV (v_nilCheck rfl) ?_
            refine oV (v_fa rfl pt133_0_3 fd133_3) ?_
            refine oT (t_storeC (y' := (((10 : Int), a_n_.name, a_n_.mark, y93.1, (TList.mk t_a_n_4 a_n_.items), (TList.mk t_a_n_5 a_n_.fields), a_n_.root, a_n_.more, a_n_.of) : (Int × Str × GMark × GCon × (TList GItem) × (TList GFld) × Int × Bool × Int))) ty54 rfl rfl (fun _ _ h => h) (.there (.there (.there (.there .here)))) rfl ?_)
            refine rnf ?_
            refine wsr ?_
            refine oV (v_move rfl) ?_
            refine cal_inv h fun y96 hy96 h => ?_
            refine oT (t_call (r05_parser_must_w hy96) hT (.same rfl (.same rfl .nil)) (.cons (.there .here) (.cons (.there .here) (.cons (.there .here) (.cons (.there .here) .nil)))) (fun R H' hR => ?_))
            obtain ⟨t97, t98, rfl, rfl⟩ := hR
            refine rnf ?_
            refine w_region ?_
            refine oV (v_move rfl) ?_
            refine oV (v_move rfl) ?_
            refine oV (v_move rfl) ?_
            refine ck_inv h fun q99 h => ?_
            refine oV (v_add rfl rfl q99) ?_
            refine cal_inv h fun y100 hy100 h => ?_
            refine oT (t_call (h_r05_parser_typ hy100) hT (.same rfl (.same rfl .nil)) (.cons .here (.cons .here (.cons .here (.cons .here .nil)))) (fun R H' hR => ?_))
            obtain ⟨t101, t102, v103, rfl, rfl⟩ := hR
            refine oV (v_nilCheck rfl) ?_
            refine oV (v_fa rfl pt133_0_8 fd133_8) ?_
            refine oT (t_storeC (y' := (((10 : Int), a_n_.name, a_n_.mark, y93.1, (TList.mk t_a_n_4 a_n_.items), (TList.mk t_a_n_5 a_n_.fields), a_n_.root, a_n_.more, y100.1) : (Int × Str × GMark × GCon × (TList GItem) × (TList GFld) × Int × Bool × Int))) ty3 rfl rfl (fun _ _ h => h) (.there (.there (.there (.there .here)))) rfl ?_)
            refine rl_nil ?_
            refine fin_block ?_
            refine fin_post .nil (.cons (.there .here) (.cons (.there .here) (.cons (.there .here) (.cons (.there .here) (.cons .here (.cons .here (.cons .here .nil))))))) ?_
            obtain rfl := Option.some.inj h
            exact ⟨t101, t102, v103, t_a_n_4, t_a_n_5, rfl, rfl⟩
          ·
           refine wsr ?_
           refine oV (v_fi rfl GTok.f0 fd105_0 rfl (z := y6.1.kind)) ?_
           refine oV (v_loadI ty3 rfl) ?_
           refine oV (v_eql rfl rfl) ?_
           refine oV (v_assign rfl) ?_
           refine rnf ?_
           refine w_condM h rfl (fun _ h => ?_) (fun _ h => ?_)
           ·
            refine w_seq ?_
            refine w_regionD (.v 0 (.v 1 (.v 2 (.v 3 (.v 4 (.v 5 (.t 6 (.v 7 (.v 8 (.t 9 .nil)))))))))) moOrd (by kernel_rfl) ?_
            refine rd_v rfl (v_move rfl) ?_
            refine rd_v rfl (v_move rfl) ?_
            refine rd_v rfl (v_fi rfl GTok.f1 fd105_1 rfl (z := y6.1.text)) ?_
            refine rd_v rfl (v_loadI ty9 rfl) ?_
            refine rd_v rfl (v_nilCheck rfl) ?_
            refine rd_v rfl (v_fa rfl pt133_0_0 fd133_0) ?_
            refine rd_t rfl rfl (t_storeC (y' := (((11 : Int), a_n_.name, a_n_.mark, a_n_.con, (TList.mk t_a_n_4 a_n_.items), (TList.mk t_a_n_5 a_n_.fields), a_n_.root, a_n_.more, a_n_.of) : (Int × Str × GMark × GCon × (TList GItem) × (TList GFld) × Int × Bool × Int))) ty3 rfl rfl (fun _ _ h => h) (.there (.there (.there (.there .here)))) rfl ?_)
            refine rd_v rfl (v_nilCheck rfl) ?_
            refine rd_v rfl (v_fa rfl pt133_0_1 fd133_1) ?_
            refine rd_t rfl rfl (t_storeC (y' := (((11 : Int), y6.1.text, a_n_.mark, a_n_.con, (TList.mk t_a_n_4 a_n_.items), (TList.mk t_a_n_5 a_n_.fields), a_n_.root, a_n_.more, a_n_.of) : (Int × Str × GMark × GCon × (TList GItem) × (TList GFld) × Int × Bool × Int))) ty9 rfl rfl (fun _ _ h => h) .here rfl ?_)
            refine rd_nil ?_
            refine fin_nxt ?_
            refine w_region ?_
            refine oV (v_move rfl) ?_
            refine cal_inv h fun y104 hy104 h => ?_
            refine oT (t_call (r05_parser_next_w hy104) hT (.same rfl .nil) (.cons (.there .here) (.cons (.there .here) (.cons (.there .here) (.cons (.there .here) .nil)))) (fun R H' hR => ?_))
            obtain ⟨t105, t106, rfl, rfl⟩ := hR
            refine rl_nil ?_
            refine fin_block ?_
            refine fin_post .nil (.cons .here (.cons .here (.cons .here (.cons .here (.cons .here (.cons .here (.cons .here .nil))))))) ?_
            obtain rfl := Option.some.inj h
            exact ⟨t105, t106, v_a_x3, t_a_n_4, t_a_n_5, rfl, rfl⟩
           ·
            refine w_region ?_
            refine oV (v_move rfl) ?_
            refine oV (v_loadI ty105 rfl) ?_
            refine cal_inv h fun y107 hy107 h => ?_
            refine oT (t_call (r05_parser_fail_w hy107) hT (.same rfl (.same rfl (.same rfl .nil))) (.cons .here (.cons .here (.cons .here (.cons .here .nil)))) (fun R H' hR => ?_))
            obtain ⟨t108, t109, rfl, rfl⟩ := hR
            refine rl_nil ?_
            refine fin_block ?_
            refine fin_post .nil (.cons .here (.cons .here (.cons .here (.cons .here (.cons .here (.cons .here (.cons .here .nil))))))) ?_
            obtain rfl := Option.some.inj h
            exact ⟨t108, t109, v_a_x3, t_a_n_4, t_a_n_5, rfl, rfl⟩

theorem r05_parser_fields_w0 {r05_parser_field' : GPar → GNode → Int → Int → Option (GPar × GNode)} {r05_parser_typ' : GPar → Int → Option (Int × GPar)} {r05_parser_base' : GPar → GNode → Int → Option (GPar × GNode)} {r05_parser_fields' : GPar → GNode → Int → Option (GPar × GNode)} (h_r05_parser_field : r05_parser_field_C r05_parser_field') (h_r05_parser_typ : r05_parser_typ_C r05_parser_typ') (h_r05_parser_base : r05_parser_base_C r05_parser_base') (h_r05_parser_fields : r05_parser_fields_C r05_parser_fields') : ∀ {a_x : GPar} {a_n_ : GNode} {a_depth : Int} {b_a_x : Nat} {t_a_x1 : Tok} {t_a_x2 : Tok} {v_a_x3 : Vt} {b_a_n_ : Nat} {t_a_n_4 : Tok} {t_a_n_5 : Tok} {r : GPar × GNode}, r05_parser_fields_F r05_parser_field' r05_parser_typ' r05_parser_base' r05_parser_fields' a_x a_n_ a_depth = some r → Ctr Tryd.prog 109 [ptrv b_a_x (Fld.id ((List GTok) × Int × (Str × Int × (TList Str) × (TList Int) × Vh) × Int × Int)), ptrv b_a_n_ (Fld.id (Int × Str × GMark × GCon × (TList GItem) × (TList GFld) × Int × Bool × Int)), isv (a_depth)] [boxE b_a_x ((a_x.l, a_x.at_, (a_x.m.name, a_x.m.tagging, (TList.mk t_a_x1 a_x.m.names), (TList.mk t_a_x2 a_x.m.types), (Vh.mk v_a_x3 a_x.m.nodes.length)), a_x.e, a_x.p) : ((List GTok) × Int × (Str × Int × (TList Str) × (TList Int) × Vh) × Int × Int)), tokE t_a_x1, tokE t_a_x2, vecE v_a_x3 (a_x.m.nodes : List GNode), boxE b_a_n_ ((a_n_.kind, a_n_.name, a_n_.mark, a_n_.con, (TList.mk t_a_n_4 a_n_.items), (TList.mk t_a_n_5 a_n_.fields), a_n_.root, a_n_.more, a_n_.of) : (Int × Str × GMark × GCon × (TList GItem) × (TList GFld) × Int × Bool × Int)), tokE t_a_n_4, tokE t_a_n_5] (fun R H => ∃ u1 : Tok, ∃ u2 : Tok, ∃ u3 : Vt, ∃ u4 : Tok, ∃ u5 : Tok, R = oneOf [] ∧ H = [boxE b_a_x ((r.1.l, r.1.at_, (r.1.m.name, r.1.m.tagging, (TList.mk u1 r.1.m.names), (TList.mk u2 r.1.m.types), (Vh.mk u3 r.1.m.nodes.length)), r.1.e, r.1.p)), tokE u1, tokE u2, vecE u3 (r.1.m.nodes), boxE b_a_n_ ((r.2.kind, r.2.name, r.2.mark, r.2.con, (TList.mk u4 r.2.items), (TList.mk u5 r.2.fields), r.2.root, r.2.more, r.2.of)), tokE u4, tokE u5]) := by
 intro a_x a_n_ a_depth b_a_x t_a_x1 t_a_x2 v_a_x3 b_a_n_ t_a_n_4 t_a_n_5 r h
 unfold r05_parser_fields_F at h
 refine spec_intro Tryd.func109 rfl (by decide +kernel) (by rfl) fun w0 S0 hT => ?_
 refine w_seq ?_
 refine wsr ?_
 refine oV (v_move rfl) ?_
 refine cal_inv h fun y6 hy6 h => ?_
 refine oT (t_call (r05_parser_is_w hy6) hT (.same rfl (.same rfl .nil)) (.cons .here (.cons .here (.cons .here (.cons .here .nil)))) (fun R H' hR => ?_))
 obtain ⟨t7, t8, rfl, rfl⟩ := hR
 refine rnf ?_
 refine w_condM h rfl (fun _ h => ?_) (fun _ h => ?_)
 ·
  refine w_ret ?_
  refine ret_nxt ?_
  refine ret_post .nil (.cons .here (.cons .here (.cons .here (.cons .here (.cons .here (.cons .here (.cons .here .nil))))))) ?_
  obtain rfl := Option.some.inj h
  exact ⟨t7, t8, v_a_x3, t_a_n_4, t_a_n_5, rfl, rfl⟩
 ·
  refine wkf ?_
  refine wsr ?_
  refine oV (v_assign rfl) ?_
  refine rnf ?_
  refine w_seq ?_
  refine w_J (ι := GPar × GNode) (γ := Tok × Tok × Vt × Tok × Tok) (fun q9 g9 => [(6, anyv)]) (fun q9 g9 => [boxE b_a_x ((q9.1.l, q9.1.at_, (q9.1.m.name, q9.1.m.tagging, (TList.mk g9.1 q9.1.m.names), (TList.mk g9.2.1 q9.1.m.types), (Vh.mk g9.2.2.1 q9.1.m.nodes.length)), q9.1.e, q9.1.p) : ((List GTok) × Int × (Str × Int × (TList Str) × (TList Int) × Vh) × Int × Int)), tokE g9.1, tokE g9.2.1, vecE g9.2.2.1 (q9.1.m.nodes : List GNode), boxE b_a_n_ ((q9.2.kind, q9.2.name, q9.2.mark, q9.2.con, (TList.mk g9.2.2.2.1 q9.2.items), (TList.mk g9.2.2.2.2 q9.2.fields), q9.2.root, q9.2.more, q9.2.of) : (Int × Str × GMark × GCon × (TList GItem) × (TList GFld) × Int × Bool × Int)), tokE g9.2.2.2.1, tokE g9.2.2.2.2]) (.cons .here (.cons (.there (.there (.there .here))) (.cons .here (.cons .here (.cons .here (.cons .here (.cons .here .nil))))))) h (fun q9 g9 h => ?_) (fun J10 h hJ10 => ?_)
  ·
   refine wsr ?_
   refine oV (v_move rfl) ?_
   refine cal_inv h fun y114 hy114 h => ?_
   refine oT (t_call (r05_parser_must_w hy114) hT (.same rfl (.same rfl .nil)) (.cons .here (.cons .here (.cons .here (.cons .here .nil)))) (fun R H' hR => ?_))
   obtain ⟨t115, t116, rfl, rfl⟩ := hR
   refine rnf ?_
   refine wsr ?_
   refine oV (v_move rfl) ?_
   refine oV (v_nilCheck rfl) ?_
   refine oV (v_fa rfl pt133_0_7 fd133_7) ?_
   refine oT (t_loadC (R := isv (q9.2.more)) ty4 rfl (.there (.there (.there (.there .here)))) (fun _ _ h => h) ?_)
   refine oV (v_not rfl) ?_
   refine rnf ?_
   refine w_condM h rfl (fun _ h => ?_) (fun _ h => ?_)
   ·
    refine w_region ?_
    refine oV (v_move rfl) ?_
    refine oV (v_move rfl) ?_
    refine oV (v_nilCheck rfl) ?_
    refine oV (v_fa rfl pt133_0_5 fd133_5) ?_
    refine oT (t_loadC (R := appv g9.2.2.2.2 (q9.2.fields)) ty56 rfl (.there (.there (.there (.there .here)))) isvT1 ?_)
    refine oV (v_ln (l := q9.2.fields) rfl appv_isv sl56) ?_
    refine oV (v_nilCheck rfl) ?_
    refine oV (v_fa rfl pt133_0_6 fd133_6) ?_
    refine oT (t_storeC (y' := ((q9.2.kind, q9.2.name, q9.2.mark, q9.2.con, (TList.mk g9.2.2.2.1 q9.2.items), (TList.mk g9.2.2.2.2 q9.2.fields), (q9.2.fields.length : Int), q9.2.more, q9.2.of) : (Int × Str × GMark × GCon × (TList GItem) × (TList GFld) × Int × Bool × Int))) ty3 rfl rfl (fun _ _ h => h) (.there (.there (.there (.there .here)))) rfl ?_)
    refine rl_nil ?_
    refine fin_post .nil (.cons (.there .here) (.cons (.there .here) (.cons (.there .here) (.cons (.there .here) (.cons .here (.cons .here (.cons .here .nil))))))) ?_
    obtain rfl := Option.some.inj h
    exact ⟨t115, t116, g9.2.2.1, g9.2.2.2.1, g9.2.2.2.2, rfl, rfl⟩
   ·
    refine w_skip ?_
    refine fin_post .nil (.cons .here (.cons .here (.cons .here (.cons .here (.cons .here (.cons .here (.cons .here .nil))))))) ?_
    obtain rfl := Option.some.inj h
    exact ⟨t115, t116, g9.2.2.1, g9.2.2.2.1, g9.2.2.2.2, rfl, rfl⟩
  ·
   refine w_block ?_
   refine w_lp (ι := Int × GPar × GNode) (γ := Tok × Tok × Vt × Tok × Tok) (fun q11 g11 => [(6, isv (q11.1))]) (fun q11 g11 => [boxE b_a_x ((q11.2.1.l, q11.2.1.at_, (q11.2.1.m.name, q11.2.1.m.tagging, (TList.mk g11.1 q11.2.1.m.names), (TList.mk g11.2.1 q11.2.1.m.types), (Vh.mk g11.2.2.1 q11.2.1.m.nodes.length)), q11.2.1.e, q11.2.1.p) : ((List GTok) × Int × (Str × Int × (TList Str) × (TList Int) × Vh) × Int × Int)), tokE g11.1, tokE g11.2.1, vecE g11.2.2.1 (q11.2.1.m.nodes : List GNode), boxE b_a_n_ ((q11.2.2.kind, q11.2.2.name, q11.2.2.mark, q11.2.2.con, (TList.mk g11.2.2.2.1 q11.2.2.items), (TList.mk g11.2.2.2.2 q11.2.2.fields), q11.2.2.root, q11.2.2.more, q11.2.2.of) : (Int × Str × GMark × GCon × (TList GItem) × (TList GFld) × Int × Bool × Int)), tokE g11.2.2.2.1, tokE g11.2.2.2.2]) h (t7, t8, v_a_x3, t_a_n_4, t_a_n_5) (mod_cons (j := 6) rfl (fun _ _ h => h) mod_nil) (.cons .here (.cons .here (.cons .here (.cons .here (.cons .here (.cons .here (.cons .here .nil))))))) (fun L12 q11 g11 Q113 h hL12 eL12 rL12 => ?_)
   refine w_seq ?_
   refine wsr ?_
   refine oV (v_move rfl) ?_
   refine oV (v_nilCheck rfl) ?_
   refine oV (v_fa rfl pt101_0_3 fd101_3) ?_
   refine oT (t_loadC (R := isv (q11.2.1.e)) ty30 rfl .here (fun _ _ h => h) ?_)
   refine oV (v_eql rfl rfl) ?_
   refine rnf ?_
   refine w_condM h rfl (fun _ h => ?_) (fun _ h => ?_)
   ·
    refine wkf ?_
    refine w_block ?_
    refine w_seq ?_
    refine w_J (ι := Int × GPar × GNode) (γ := Tok × Tok × Vt × Tok × Tok) (fun q63 g63 => [(6, isv (q63.1))]) (fun q63 g63 => [boxE b_a_x ((q63.2.1.l, q63.2.1.at_, (q63.2.1.m.name, q63.2.1.m.tagging, (TList.mk g63.1 q63.2.1.m.names), (TList.mk g63.2.1 q63.2.1.m.types), (Vh.mk g63.2.2.1 q63.2.1.m.nodes.length)), q63.2.1.e, q63.2.1.p) : ((List GTok) × Int × (Str × Int × (TList Str) × (TList Int) × Vh) × Int × Int)), tokE g63.1, tokE g63.2.1, vecE g63.2.2.1 (q63.2.1.m.nodes : List GNode), boxE b_a_n_ ((q63.2.2.kind, q63.2.2.name, q63.2.2.mark, q63.2.2.con, (TList.mk g63.2.2.2.1 q63.2.2.items), (TList.mk g63.2.2.2.2 q63.2.2.fields), q63.2.2.root, q63.2.2.more, q63.2.2.of) : (Int × Str × GMark × GCon × (TList GItem) × (TList GFld) × Int × Bool × Int)), tokE g63.2.2.2.1, tokE g63.2.2.2.2]) (.cons .here (.cons (.there (.there (.there .here))) (.cons .here (.cons .here (.cons .here (.cons .here (.cons .here .nil))))))) h (fun q63 g63 h => ?_) (fun J64 h hJ64 => ?_)
    ·
     refine wsr ?_
     refine oV (v_move rfl) ?_
     refine cal_inv h fun y110 hy110 h => ?_
     refine oT (t_call (r05_parser_is_w hy110) hT (.same rfl (.same rfl .nil)) (.cons .here (.cons .here (.cons .here (.cons .here .nil)))) (fun R H' hR => ?_))
     obtain ⟨t111, t112, rfl, rfl⟩ := hR
     refine oV (v_not rfl) ?_
     refine rnf ?_
     refine w_condM h rfl (fun _ h => ?_) (fun _ h => ?_)
     ·
      refine w_exit ?_
      refine exi_pass rfl ?_
      refine eL12 _ _ ?_
      refine exi_block ?_
      exact hJ10 _ (t111, t112, g63.2.2.1, g63.2.2.2.1, g63.2.2.2.2) h _ (join_imp 10 rfl rfl (mod_cons (j := 6) rfl (fun _ _ _ => trivial) mod_nil) (.cons .here (.cons .here (.cons .here (.cons .here (.cons .here (.cons .here (.cons .here .nil))))))))
     ·
      refine w_skip ?_
      refine fin_block ?_
      exact hL12 _ (t111, t112, g63.2.2.1, g63.2.2.2.1, g63.2.2.2.2) h _ (join_imp 10 rfl rfl (mod_cons (j := 6) rfl (fun _ _ h => h) mod_nil) (.cons .here (.cons .here (.cons .here (.cons .here (.cons .here (.cons .here (.cons .here .nil))))))))
    ·
     refine w_block ?_
     refine wsr ?_
     refine oV (v_move rfl) ?_
     refine oV (v_nilCheck rfl) ?_
     refine oV (v_fa rfl pt133_0_7 fd133_7) ?_
     refine oT (t_loadC (R := isv (q11.2.2.more)) ty4 rfl (.there (.there (.there (.there .here)))) (fun _ _ h => h) ?_)
     refine oV (v_not rfl) ?_
     refine oV (v_move rfl) ?_
     refine rl_j (ι := Bool × GPar) (γ := Tok × Tok) (fun q65 g65 => [(27, isv (q65.1))]) (fun q65 g65 => [boxE b_a_x ((q65.2.l, q65.2.at_, (q65.2.m.name, q65.2.m.tagging, (TList.mk g65.1 q65.2.m.names), (TList.mk g65.2 q65.2.m.types), (Vh.mk g11.2.2.1 q65.2.m.nodes.length)), q65.2.e, q65.2.p) : ((List GTok) × Int × (Str × Int × (TList Str) × (TList Int) × Vh) × Int × Int)), tokE g65.1, tokE g65.2, vecE g11.2.2.1 (q65.2.m.nodes : List GNode)]) (.cons .here (.cons .here (.cons .here (.cons .here .nil)))) h 3 rfl (fun q65 g65 h => ?_) (fun J66 h hJ66 => ?_)
     ·
      refine oV (v_assign rfl) ?_
      refine rnf ?_
      refine w_condM h rfl (fun _ h => ?_) (fun _ h => ?_)
      ·
       refine w_region ?_
       refine oV (v_move rfl) ?_
       refine oV (v_move rfl) ?_
       refine oV (v_move rfl) ?_
       refine oV (v_nilCheck rfl) ?_
       refine oV (v_fa rfl pt133_0_5 fd133_5) ?_
       refine oT (t_loadC (R := appv g11.2.2.2.2 (q11.2.2.fields)) ty56 rfl (.there (.there (.there (.there .here)))) isvT1 ?_)
       refine oV (v_ln (l := q11.2.2.fields) rfl appv_isv sl56) ?_
       refine oV (v_nilCheck rfl) ?_
       refine oV (v_fa rfl pt133_0_7 fd133_7) ?_
       refine oT (t_storeC (y' := ((q11.2.2.kind, q11.2.2.name, q11.2.2.mark, q11.2.2.con, (TList.mk g11.2.2.2.1 q11.2.2.items), (TList.mk g11.2.2.2.2 q11.2.2.fields), q11.2.2.root, true, q11.2.2.of) : (Int × Str × GMark × GCon × (TList GItem) × (TList GFld) × Int × Bool × Int))) ty4 rfl rfl (fun _ _ h => h) (.there (.there (.there (.there .here)))) rfl ?_)
       refine oV (v_nilCheck rfl) ?_
       refine oV (v_fa rfl pt133_0_6 fd133_6) ?_
       refine oT (t_storeC (y' := ((q11.2.2.kind, q11.2.2.name, q11.2.2.mark, q11.2.2.con, (TList.mk g11.2.2.2.1 q11.2.2.items), (TList.mk g11.2.2.2.2 q11.2.2.fields), (q11.2.2.fields.length : Int), true, q11.2.2.of) : (Int × Str × GMark × GCon × (TList GItem) × (TList GFld) × Int × Bool × Int))) ty3 rfl rfl (fun _ _ h => h) .here rfl ?_)
       refine rl_nil ?_
       refine fin_block ?_
       exact hJ64 _ (g65.1, g65.2, g11.2.2.1, g11.2.2.2.1, g11.2.2.2.2) h _ (join_imp 19 rfl rfl (mod_cons (j := 6) rfl (fun _ _ h => h) mod_nil) (.cons (.there .here) (.cons (.there .here) (.cons (.there .here) (.cons (.there .here) (.cons .here (.cons .here (.cons .here .nil))))))))
      ·
       refine wsr ?_
       refine oV (v_move rfl) ?_
       refine oV (v_nilCheck rfl) ?_
       refine oV (v_fa rfl pt133_0_7 fd133_7) ?_
       refine oT (t_loadC (R := isv (q11.2.2.more)) ty4 rfl (.there (.there (.there (.there .here)))) (fun _ _ h => h) ?_)
       refine oV (v_move rfl) ?_
       refine rl_j (ι := Bool × GPar) (γ := Tok × Tok) (fun q71 g71 => [(47, isv (q71.1))]) (fun q71 g71 => [boxE b_a_x ((q71.2.l, q71.2.at_, (q71.2.m.name, q71.2.m.tagging, (TList.mk g71.1 q71.2.m.names), (TList.mk g71.2 q71.2.m.types), (Vh.mk g11.2.2.1 q71.2.m.nodes.length)), q71.2.e, q71.2.p) : ((List GTok) × Int × (Str × Int × (TList Str) × (TList Int) × Vh) × Int × Int)), tokE g71.1, tokE g71.2, vecE g11.2.2.1 (q71.2.m.nodes : List GNode)]) (.cons .here (.cons .here (.cons .here (.cons .here .nil)))) h 3 rfl (fun q71 g71 h => ?_) (fun J72 h hJ72 => ?_)
       ·
        refine oV (v_assign rfl) ?_
        refine rnf ?_
        refine w_condM h rfl (fun _ h => ?_) (fun _ h => ?_)
        ·
         refine wsr ?_
         refine oV (v_move rfl) ?_
         refine ck_inv h fun q77 h => ?_
         refine oV (v_add rfl rfl q77) ?_
         refine oV (v_assign rfl) ?_
         refine rnf ?_
         refine w_seq ?_
         refine w_J (ι := GPar × GNode) (γ := Tok × Tok × Vt × Tok × Tok) (fun q78 g78 => []) (fun q78 g78 => [boxE b_a_x ((q78.1.l, q78.1.at_, (q78.1.m.name, q78.1.m.tagging, (TList.mk g78.1 q78.1.m.names), (TList.mk g78.2.1 q78.1.m.types), (Vh.mk g78.2.2.1 q78.1.m.nodes.length)), q78.1.e, q78.1.p) : ((List GTok) × Int × (Str × Int × (TList Str) × (TList Int) × Vh) × Int × Int)), tokE g78.1, tokE g78.2.1, vecE g78.2.2.1 (q78.1.m.nodes : List GNode), boxE b_a_n_ ((q78.2.kind, q78.2.name, q78.2.mark, q78.2.con, (TList.mk g78.2.2.2.1 q78.2.items), (TList.mk g78.2.2.2.2 q78.2.fields), q78.2.root, q78.2.more, q78.2.of) : (Int × Str × GMark × GCon × (TList GItem) × (TList GFld) × Int × Bool × Int)), tokE g78.2.2.2.1, tokE g78.2.2.2.2]) (.cons .here (.cons (.there (.there (.there .here))) (.cons .here (.cons .here (.cons .here (.cons .here (.cons .here .nil))))))) h (fun q78 g78 h => ?_) (fun J79 h hJ79 => ?_)
         ·
          refine w_region ?_
          refine oV (v_move rfl) ?_
          refine cal_inv h fun y101 hy101 h => ?_
          refine oT (t_call (r05_parser_must_w hy101) hT (.same rfl (.same rfl .nil)) (.cons .here (.cons .here (.cons .here (.cons .here .nil)))) (fun R H' hR => ?_))
          obtain ⟨t102, t103, rfl, rfl⟩ := hR
          refine rl_nil ?_
          refine fin_block ?_
          exact hJ64 _ (t102, t103, g78.2.2.1, g78.2.2.2.1, g78.2.2.2.2) h _ (join_imp 20 rfl rfl (mod_cons (j := 6) rfl (fun _ _ h => h) mod_nil) (.cons .here (.cons .here (.cons .here (.cons .here (.cons .here (.cons .here (.cons .here .nil))))))))
         ·
          refine w_block ?_
          refine w_lp (ι := GPar × GNode) (γ := Tok × Tok × Vt × Tok × Tok) (fun q80 g80 => []) (fun q80 g80 => [boxE b_a_x ((q80.1.l, q80.1.at_, (q80.1.m.name, q80.1.m.tagging, (TList.mk g80.1 q80.1.m.names), (TList.mk g80.2.1 q80.1.m.types), (Vh.mk g80.2.2.1 q80.1.m.nodes.length)), q80.1.e, q80.1.p) : ((List GTok) × Int × (Str × Int × (TList Str) × (TList Int) × Vh) × Int × Int)), tokE g80.1, tokE g80.2.1, vecE g80.2.2.1 (q80.1.m.nodes : List GNode), boxE b_a_n_ ((q80.2.kind, q80.2.name, q80.2.mark, q80.2.con, (TList.mk g80.2.2.2.1 q80.2.items), (TList.mk g80.2.2.2.2 q80.2.fields), q80.2.root, q80.2.more, q80.2.of) : (Int × Str × GMark × GCon × (TList GItem) × (TList GFld) × Int × Bool × Int)), tokE g80.2.2.2.1, tokE g80.2.2.2.2]) h (g71.1, g71.2, g11.2.2.1, g11.2.2.2.1, g11.2.2.2.2) mod_nil (.cons .here (.cons .here (.cons .here (.cons .here (.cons .here (.cons .here (.cons .here .nil))))))) (fun L81 q80 g80 Q100 h hL81 eL81 rL81 => ?_)
          refine w_seq ?_
          refine wsr ?_
          refine oV (v_move rfl) ?_
          refine oV (v_nilCheck rfl) ?_
          refine oV (v_fa rfl pt101_0_3 fd101_3) ?_
          refine oT (t_loadC (R := isv (q80.1.e)) ty30 rfl .here (fun _ _ h => h) ?_)
          refine oV (v_eql rfl rfl) ?_
          refine rnf ?_
          refine w_condM h rfl (fun _ h => ?_) (fun _ h => ?_)
          ·
           refine wkf ?_
           refine w_block ?_
           refine wsr ?_
           refine oV (v_move rfl) ?_
           refine oV (v_move rfl) ?_
           refine oV (v_move rfl) ?_
           refine oV (v_move rfl) ?_
           refine cal_inv h fun y91 hy91 h => ?_
           refine oT (t_call (h_r05_parser_field hy91) hT (.same rfl (.same rfl (.same rfl (.same rfl .nil)))) (.cons .here (.cons .here (.cons .here (.cons .here (.cons .here (.cons .here (.cons .here .nil))))))) (fun R H' hR => ?_))
           obtain ⟨t92, t93, v94, t95, t96, rfl, rfl⟩ := hR
           refine rnf ?_
           refine wsr ?_
           refine oV (v_move rfl) ?_
           refine cal_inv h fun y97 hy97 h => ?_
           refine oT (t_call (r05_parser_is_w hy97) hT (.same rfl (.same rfl .nil)) (.cons .here (.cons .here (.cons .here (.cons .here .nil)))) (fun R H' hR => ?_))
           obtain ⟨t98, t99, rfl, rfl⟩ := hR
           refine oV (v_not rfl) ?_
           refine rnf ?_
           refine w_condM h rfl (fun _ h => ?_) (fun _ h => ?_)
           ·
            refine w_exit ?_
            refine exi_pass rfl ?_
            refine eL81 _ _ ?_
            refine exi_block ?_
            exact hJ79 _ (t98, t99, v94, t95, t96) h _ (join_imp 13 rfl rfl mod_nil (.cons .here (.cons .here (.cons .here (.cons .here (.cons .here (.cons .here (.cons .here .nil))))))))
           ·
            refine w_skip ?_
            refine fin_block ?_
            exact hL81 _ (t98, t99, v94, t95, t96) h _ (join_imp 13 rfl rfl mod_nil (.cons .here (.cons .here (.cons .here (.cons .here (.cons .here (.cons .here (.cons .here .nil))))))))
          ·
           refine w_exit ?_
           refine exi_nxt ?_
           refine eL81 _ _ ?_
           refine exi_block ?_
           exact hJ79 _ (g80.1, g80.2.1, g80.2.2.1, g80.2.2.2.1, g80.2.2.2.2) h _ (join_imp 5 rfl rfl mod_nil (.cons .here (.cons .here (.cons .here (.cons .here (.cons .here (.cons .here (.cons .here .nil))))))))
        ·
         refine w_region ?_
         refine oV (v_move rfl) ?_
         refine oV (v_move rfl) ?_
         refine oV (v_move rfl) ?_
         refine cal_inv h fun y104 hy104 h => ?_
         refine oT (t_call (h_r05_parser_field hy104) hT (.same rfl (.same rfl (.same rfl (.same rfl .nil)))) (.cons .here (.cons .here (.cons .here (.cons .here (.cons .here (.cons .here (.cons .here .nil))))))) (fun R H' hR => ?_))
         obtain ⟨t105, t106, v107, t108, t109, rfl, rfl⟩ := hR
         refine rl_nil ?_
         refine fin_block ?_
         exact hJ64 _ (t105, t106, v107, t108, t109) h _ (join_imp 19 rfl rfl (mod_cons (j := 6) rfl (fun _ _ h => h) mod_nil) (.cons .here (.cons .here (.cons .here (.cons .here (.cons .here (.cons .here (.cons .here .nil))))))))
       ·
        refine rl_condM (j := 44) h rfl (fun g73 h => ?_) (fun g73 h => ?_)
        ·
         refine op_take rfl rfl (dj := 44) rfl g73 (OpV.t (v_move rfl) ?_)
         refine cal_inv h fun y74 hy74 h => ?_
         refine op_take rfl rfl (dj := 44) rfl g73 (t_call (r05_parser_is_w hy74) hT (.same rfl (.same rfl .nil)) (.cons .here (.cons .here (.cons .here (.cons .here .nil)))) (fun R H' hR => ?_))
         obtain ⟨t75, t76, rfl, rfl⟩ := hR
         refine oV (v_pick_t rfl g73 rfl) ?_
         exact hJ72 _ (t75, t76) h _ (join_imp 3 rfl rfl (mod_cons (j := 47) rfl (fun _ _ h => h) mod_nil) (.cons .here (.cons .here (.cons .here (.cons .here (.cons .here (.cons .here (.cons .here .nil))))))))
        ·
         refine op_pass rfl (dj := 44) rfl g73 ?_
         refine op_pass rfl (dj := 44) rfl g73 ?_
         refine oV (v_pick_f rfl g73 rfl) ?_
         exact hJ72 _ (g65.1, g65.2) h _ (join_imp 3 rfl rfl (mod_cons (j := 47) rfl (fun _ _ h => h) mod_nil) (.cons .here (.cons .here (.cons .here (.cons .here (.cons .here (.cons .here (.cons .here .nil))))))))
     ·
      refine rl_condM (j := 24) h rfl (fun g67 h => ?_) (fun g67 h => ?_)
      ·
       refine op_take rfl rfl (dj := 24) rfl g67 (OpV.t (v_move rfl) ?_)
       refine cal_inv h fun y68 hy68 h => ?_
       refine op_take rfl rfl (dj := 24) rfl g67 (t_call (r05_parser_is_w hy68) hT (.same rfl (.same rfl .nil)) (.cons .here (.cons .here (.cons .here (.cons .here .nil)))) (fun R H' hR => ?_))
       obtain ⟨t69, t70, rfl, rfl⟩ := hR
       refine oV (v_pick_t rfl g67 rfl) ?_
       exact hJ66 _ (t69, t70) h _ (join_imp 3 rfl rfl (mod_cons (j := 27) rfl (fun _ _ h => h) mod_nil) (.cons .here (.cons .here (.cons .here (.cons .here (.cons .here (.cons .here (.cons .here .nil))))))))
      ·
       refine op_pass rfl (dj := 24) rfl g67 ?_
       refine op_pass rfl (dj := 24) rfl g67 ?_
       refine oV (v_pick_f rfl g67 rfl) ?_
       exact hJ66 _ (g11.1, g11.2.1) h _ (join_imp 3 rfl rfl (mod_cons (j := 27) rfl (fun _ _ h => h) mod_nil) (.cons .here (.cons .here (.cons .here (.cons .here (.cons .here (.cons .here (.cons .here .nil))))))))
   ·
    refine w_exit ?_
    refine exi_nxt ?_
    refine eL12 _ _ ?_
    refine exi_block ?_
    exact hJ10 _ (g11.1, g11.2.1, g11.2.2.1, g11.2.2.2.1, g11.2.2.2.2) h _ (join_imp 6 rfl rfl (mod_cons (j := 6) rfl (fun _ _ _ => trivial) mod_nil) (.cons .here (.cons .here (.cons .here (.cons .here (.cons .here (.cons .here (.cons .here .nil))))))))

theorem r05_parser_field_grp_w : ∀ n, r05_parser_field_C (r05_parser_field n) ∧ r05_parser_typ_C (r05_parser_typ n) ∧ r05_parser_base_C (r05_parser_base n) ∧ r05_parser_fields_C (r05_parser_fields n)
 | 0 => ⟨fun h => (by cases h), fun h => (by cases h), fun h => (by cases h), fun h => (by cases h)⟩
 | n + 1 => by
  obtain ⟨h0, h1, h2, h3⟩ := r05_parser_field_grp_w n
  exact ⟨r05_parser_field_w0 h0 h1 h2 h3, r05_parser_typ_w0 h0 h1 h2 h3, r05_parser_base_w0 h0 h1 h2 h3, r05_parser_fields_w0 h0 h1 h2 h3⟩
theorem r05_parser_field_w (n : Nat) : r05_parser_field_C (r05_parser_field n) := (r05_parser_field_grp_w n).1
theorem r05_parser_typ_w (n : Nat) : r05_parser_typ_C (r05_parser_typ n) := (r05_parser_field_grp_w n).2.1
theorem r05_parser_base_w (n : Nat) : r05_parser_base_C (r05_parser_base n) := (r05_parser_field_grp_w n).2.2.1
theorem r05_parser_fields_w (n : Nat) : r05_parser_fields_C (r05_parser_fields n) := (r05_parser_field_grp_w n).2.2.2
end Go.Proofs.YtajbipkppngccaaDoor


namespace Go.Proofs.YtajbipkppngccaaDoor
open Go.Sy
set_option maxRecDepth 4000
theorem r05_Parse_w : ∀ {a_text : Str} {r : GMod × Int × Int}, r05_Parse a_text = some r → Ctr Tryd.prog 32 [isv (a_text)] [] (fun R H => R = oneOf [isv (r.1), isv (r.2.1), isv (r.2.2)] ∧ H = []) := by
 intro a_text r h
 unfold r05_Parse at h
 refine spec_intro Tryd.func32 rfl (by decide +kernel) (by rfl) fun w0 S0 hT => ?_
 refine wsr ?_
 refine oT (t_alloc _ ze75 fun b1 => ?_)
 refine oV (v_assign rfl) ?_
 refine oV (v_assign rfl) ?_
 refine rnf ?_
 refine wsr ?_
 refine oV (v_move rfl) ?_
 refine cal_inv h fun y2 hy2 h => ?_
 refine oT (t_call (r04_Tokens_w hy2) hT (.same rfl .nil) .nil (fun R H' hR => ?_))
 obtain ⟨rfl, rfl⟩ := hR
 refine oV (v_move rfl) ?_
 refine oV (v_extract rfl rfl) ?_
 refine oV (v_extract rfl rfl) ?_
 refine oV (v_extract rfl rfl) ?_
 refine oV (v_assign rfl) ?_
 refine oV (v_assign rfl) ?_
 refine oV (v_assign rfl) ?_
 refine rnf ?_
 refine w_seq ?_
 refine wsr ?_
 refine oV (v_move rfl) ?_
 refine oV (v_neq rfl rfl) ?_
 refine rnf ?_
 refine w_condM h rfl (fun _ h => ?_) (fun _ h => ?_)
 ·
  refine wsr ?_
  refine oV (v_build (z := (GMod.mk (Str.mk []) (0 : Int) ([] : (List Str)) ([] : (List Int)) ([] : (List GNode)))) rfl bu75 ze75 .nil) ?_
  refine oV (v_move rfl) ?_
  refine oV (v_move rfl) ?_
  refine oT (t_storeC (y' := ((GMod.mk (Str.mk []) (0 : Int) ([] : (List Str)) ([] : (List Int)) ([] : (List GNode))) : GMod)) ty75 rfl rfl (fun _ _ h => h) .here rfl ?_)
  refine oV (v_assign rfl) ?_
  refine oV (v_assign rfl) ?_
  refine rnf ?_
  refine w_ret ?_
  refine ret_nxt ?_
  refine ret_post (.cell rfl .here ty75 (.tmp rfl (.tmp rfl .nil))) .nil ?_
  obtain rfl := Option.some.inj h
  exact ⟨rfl, rfl⟩
 ·
  refine wkf ?_
  refine wsr ?_
  refine oV (v_move rfl) ?_
  refine oV (v_build (z := ((y2.1, (0 : Int), ((Str.mk []), (0 : Int), (TList.mk none ([] : (List Str))), (TList.mk none ([] : (List Int))), (Vh.mk none 0)), (0 : Int), (0 : Int)) : ((List GTok) × Int × (Str × Int × (TList Str) × (TList Int) × Vh) × Int × Int))) rfl bu101 zt101_0 (.cons pt101_0_0 fd101_0 rfl (fun _ _ h => h) .nil)) ?_
  refine oT (t_boxC (y := ((y2.1, (0 : Int), ((Str.mk []), (0 : Int), (TList.mk none ([] : (List Str))), (TList.mk none ([] : (List Int))), (Vh.mk none 0)), (0 : Int), (0 : Int)) : ((List GTok) × Int × (Str × Int × (TList Str) × (TList Int) × Vh) × Int × Int))) rfl (fun _ _ h => h) fun b3 => ?_)
  refine rl_upd (upd_tok) ?_
  refine rl_upd (upd_tok) ?_
  refine rl_upd (upd_vec (α := GNode)) ?_
  refine oV (v_assign rfl) ?_
  refine rnf ?_
  refine wsr ?_
  refine oV (v_move rfl) ?_
  refine oV (v_move rfl) ?_
  refine cal_inv h fun y7 hy7 h => ?_
  refine oT (t_call (r05_parser_kind_w hy7) hT (.same rfl (.same rfl .nil)) (.cons (.there (.there (.there .here))) (.cons (.there (.there .here)) (.cons (.there .here) (.cons .here .nil)))) (fun R H' hR => ?_))
  obtain ⟨t8, t9, rfl, rfl⟩ := hR
  refine oV (v_nilCheck rfl) ?_
  refine oV (v_fa rfl pt101_0_2 fd101_2) ?_
  refine oV (v_fa rfl pt75_0_0 fd75_0) ?_
  refine oT (t_storeC (y' := ((y7.2.l, y7.2.at_, (y7.1, y7.2.m.tagging, (TList.mk t8 y7.2.m.names), (TList.mk t9 y7.2.m.types), (Vh.mk none y7.2.m.nodes.length)), y7.2.e, y7.2.p) : ((List GTok) × Int × (Str × Int × (TList Str) × (TList Int) × Vh) × Int × Int))) ty9 rfl rfl (fun _ _ h => h) .here rfl ?_)
  refine rnf ?_
  refine wsr ?_
  refine oV (v_move rfl) ?_
  refine cal_inv h fun y10 hy10 h => ?_
  refine oT (t_call (r05_parser_must_w hy10) hT (.same rfl (.same rfl .nil)) (.cons .here (.cons .here (.cons .here (.cons .here .nil)))) (fun R H' hR => ?_))
  obtain ⟨t11, t12, rfl, rfl⟩ := hR
  refine rnf ?_
  refine w_seq ?_
  refine w_J (ι := GPar) (γ := Tok × Tok) (fun q13 g13 => []) (fun q13 g13 => [boxE b3 ((q13.l, q13.at_, (q13.m.name, q13.m.tagging, (TList.mk g13.1 q13.m.names), (TList.mk g13.2 q13.m.types), (Vh.mk none q13.m.nodes.length)), q13.e, q13.p) : ((List GTok) × Int × (Str × Int × (TList Str) × (TList Int) × Vh) × Int × Int)), tokE g13.1, tokE g13.2, vecE none (q13.m.nodes : List GNode)]) (.cons .here (.cons .here (.cons .here (.cons .here .nil)))) h (fun q13 g13 h => ?_) (fun J14 h hJ14 => ?_)
  ·
   refine wsr ?_
   refine oV (v_move rfl) ?_
   refine cal_inv h fun y33 hy33 h => ?_
   refine oT (t_call (r05_parser_must_w hy33) hT (.same rfl (.same rfl .nil)) (.cons .here (.cons .here (.cons .here (.cons .here .nil)))) (fun R H' hR => ?_))
   obtain ⟨t34, t35, rfl, rfl⟩ := hR
   refine rnf ?_
   refine wsr ?_
   refine oV (v_move rfl) ?_
   refine cal_inv h fun y36 hy36 h => ?_
   refine oT (t_call (r05_parser_must_w hy36) hT (.same rfl (.same rfl .nil)) (.cons .here (.cons .here (.cons .here (.cons .here .nil)))) (fun R H' hR => ?_))
   obtain ⟨t37, t38, rfl, rfl⟩ := hR
   refine rnf ?_
   refine w_seq ?_
   refine w_block ?_
   refine w_lp (ι := GPar) (γ := Tok × Tok × Vt) (fun q39 g39 => []) (fun q39 g39 => [boxE b3 ((q39.l, q39.at_, (q39.m.name, q39.m.tagging, (TList.mk g39.1 q39.m.names), (TList.mk g39.2.1 q39.m.types), (Vh.mk g39.2.2 q39.m.nodes.length)), q39.e, q39.p) : ((List GTok) × Int × (Str × Int × (TList Str) × (TList Int) × Vh) × Int × Int)), tokE g39.1, tokE g39.2.1, vecE g39.2.2 (q39.m.nodes : List GNode)]) h (t37, t38, none) mod_nil (.cons .here (.cons .here (.cons .here (.cons .here .nil)))) (fun L40 q39 g39 Q141 h hL40 eL40 rL40 => ?_)
   refine w_seq ?_
   refine wsr ?_
   refine oV (v_move rfl) ?_
   refine oV (v_nilCheck rfl) ?_
   refine oV (v_fa rfl pt101_0_3 fd101_3) ?_
   refine oT (t_loadC (R := isv (q39.e)) ty30 rfl .here (fun _ _ h => h) ?_)
   refine oV (v_eql rfl rfl) ?_
   refine oV (v_move rfl) ?_
   refine rl_j (ι := Bool × GPar) (γ := Tok × Tok) (fun q91 g91 => [(70, isv (q91.1))]) (fun q91 g91 => [boxE b3 ((q91.2.l, q91.2.at_, (q91.2.m.name, q91.2.m.tagging, (TList.mk g91.1 q91.2.m.names), (TList.mk g91.2 q91.2.m.types), (Vh.mk g39.2.2 q91.2.m.nodes.length)), q91.2.e, q91.2.p) : ((List GTok) × Int × (Str × Int × (TList Str) × (TList Int) × Vh) × Int × Int)), tokE g91.1, tokE g91.2, vecE g39.2.2 (q91.2.m.nodes : List GNode)]) (.cons .here (.cons .here (.cons .here (.cons .here .nil)))) h 4 rfl (fun q91 g91 h => ?_) (fun J92 h hJ92 => ?_)
   ·
    refine rnf ?_
    refine w_condM h rfl (fun _ h => ?_) (fun _ h => ?_)
    ·
     refine wkf ?_
     refine w_block ?_
     refine wsr ?_
     refine oV (v_move rfl) ?_
     refine cal_inv h fun y97 hy97 h => ?_
     refine oT (t_call (r05_parser_now_w hy97) hT (.same rfl .nil) (.cons .here (.cons .here (.cons .here (.cons .here .nil)))) (fun R H' hR => ?_))
     obtain ⟨t98, t99, rfl, rfl⟩ := hR
     refine oT (t_alloc _ ze105 fun b100 => ?_)
     refine oT (t_storeC (y' := (y97.1 : GTok)) ty105 rfl rfl (fun _ _ h => h) .here rfl ?_)
     refine rl_upd (upd_imm 9 .here rfl) ?_
     refine rnf ?_
     refine wsr ?_
     refine oV (v_move rfl) ?_
     refine cal_inv h fun y101 hy101 h => ?_
     refine oT (t_call (r05_parser_kind_w hy101) hT (.same rfl (.same rfl .nil)) (.cons .here (.cons .here (.cons .here (.cons .here .nil)))) (fun R H' hR => ?_))
     obtain ⟨t102, t103, rfl, rfl⟩ := hR
     refine oV (v_assign rfl) ?_
     refine rnf ?_
     refine w_seq ?_
     refine wsr ?_
     refine oV (v_move rfl) ?_
     refine oV (v_nilCheck rfl) ?_
     refine oV (v_fa rfl pt101_0_3 fd101_3) ?_
     refine oT (t_loadC (R := isv (y101.2.e)) ty30 rfl .here (fun _ _ h => h) ?_)
     refine oV (v_eql rfl rfl) ?_
     refine oV (v_move rfl) ?_
     refine rl_j (ι := Bool) (γ := Unit) (fun q104 g104 => [(88, isv (q104))]) (fun q104 g104 => []) .nil h 8 rfl (fun q104 g104 h => ?_) (fun J105 h hJ105 => ?_)
     ·
      refine rnf ?_
      refine w_J (ι := GPar) (γ := Tok × Tok) (fun q107 g107 => []) (fun q107 g107 => [boxE b3 ((q107.l, q107.at_, (q107.m.name, q107.m.tagging, (TList.mk g107.1 q107.m.names), (TList.mk g107.2 q107.m.types), (Vh.mk g39.2.2 q107.m.nodes.length)), q107.e, q107.p) : ((List GTok) × Int × (Str × Int × (TList Str) × (TList Int) × Vh) × Int × Int)), tokE g107.1, tokE g107.2, vecE g39.2.2 (q107.m.nodes : List GNode)]) (.cons .here (.cons .here (.cons .here (.cons .here .nil)))) h (fun q107 g107 h => ?_) (fun J108 h hJ108 => ?_)
      ·
       refine wsr ?_
       refine oV (v_move rfl) ?_
       refine cal_inv h fun y112 hy112 h => ?_
       refine oT (t_call (r05_parser_must_w hy112) hT (.same rfl (.same rfl .nil)) (.cons .here (.cons .here (.cons .here (.cons .here .nil)))) (fun R H' hR => ?_))
       obtain ⟨t113, t114, rfl, rfl⟩ := hR
       refine rnf ?_
       refine wsr ?_
       refine oV (v_move rfl) ?_
       refine cal_inv h fun y115 hy115 h => ?_
       refine oT (t_call (r05_parser_typ_w fuel hy115) hT (.same rfl (.same rfl .nil)) (.cons .here (.cons .here (.cons .here (.cons .here .nil)))) (fun R H' hR => ?_))
       obtain ⟨t116, t117, v118, rfl, rfl⟩ := hR
       refine oV (v_assign rfl) ?_
       refine rnf ?_
       refine wsr ?_
       refine oV (v_move rfl) ?_
       refine oV (v_move rfl) ?_
       refine oV (v_nilCheck rfl) ?_
       refine oV (v_fa rfl pt101_0_2 fd101_2) ?_
       refine oV (v_fa rfl pt75_0_2 fd75_2) ?_
       refine oT (t_loadC (R := appv t116 (y115.2.m.names)) ty22 rfl .here isvT1 ?_)
       refine oV (v_move rfl) ?_
       refine oT (t_buildSlice (l := ([y101.1] : (List Str))) el22 (.cons rfl (fun _ _ h => h) .nil) rfl rfl ?_)
       refine asr_inv h fun q121 h => ?_
       refine oT (t_appC (l := y115.2.m.names) (m := ([y101.1] : (List Str))) ap22_22 rfl (fun _ _ h => h) rfl appv_isv (.there .here) q121 fun t120 => ?_)
       refine oV (v_nilCheck rfl) ?_
       refine oV (v_fa rfl pt101_0_2 fd101_2) ?_
       refine oV (v_fa rfl pt75_0_2 fd75_2) ?_
       refine oT (t_storeC (y' := ((y115.2.l, y115.2.at_, (y115.2.m.name, y115.2.m.tagging, (TList.mk t120 (y115.2.m.names ++ ([y101.1] : (List Str)))), (TList.mk t117 y115.2.m.types), (Vh.mk v118 y115.2.m.nodes.length)), y115.2.e, y115.2.p) : ((List GTok) × Int × (Str × Int × (TList Str) × (TList Int) × Vh) × Int × Int))) ty22 rfl rfl isvT2 (.there .here) rfl ?_)
       refine rnf ?_
       refine w_region ?_
       refine oV (v_move rfl) ?_
       refine oV (v_move rfl) ?_
       refine oV (v_nilCheck rfl) ?_
       refine oV (v_fa rfl pt101_0_2 fd101_2) ?_
       refine oV (v_fa rfl pt75_0_3 fd75_3) ?_
       refine oT (t_loadC (R := appv t117 (y115.2.m.types)) ty23 rfl .here isvT1 ?_)
       refine oV (v_move rfl) ?_
       refine oT (t_buildSlice (l := ([y115.1] : (List Int))) el23 (.cons rfl (fun _ _ h => h) .nil) rfl rfl ?_)
       refine asr_inv h fun q124 h => ?_
       refine oT (t_appC (l := y115.2.m.types) (m := ([y115.1] : (List Int))) ap23_23 rfl (fun _ _ h => h) rfl appv_isv (.there (.there .here)) q124 fun t123 => ?_)
       refine oV (v_nilCheck rfl) ?_
       refine oV (v_fa rfl pt101_0_2 fd101_2) ?_
       refine oV (v_fa rfl pt75_0_3 fd75_3) ?_
       refine oT (t_storeC (y' := ((y115.2.l, y115.2.at_, (y115.2.m.name, y115.2.m.tagging, (TList.mk t120 (y115.2.m.names ++ ([y101.1] : (List Str)))), (TList.mk t123 (y115.2.m.types ++ ([y115.1] : (List Int)))), (Vh.mk v118 y115.2.m.nodes.length)), y115.2.e, y115.2.p) : ((List GTok) × Int × (Str × Int × (TList Str) × (TList Int) × Vh) × Int × Int))) ty23 rfl rfl isvT2 (.there .here) rfl ?_)
       refine rl_nil ?_
       refine fin_block ?_
       exact hL40 _ (t120, t123, v118) h _ (join_imp 50 rfl rfl mod_nil (.cons .here (.cons (.there .here) (.cons .here (.cons .here (.cons .here .nil))))))
      ·
       refine w_condM h rfl (fun _ h => ?_) (fun _ h => ?_)
       ·
        refine w_region ?_
        refine oV (v_move rfl) ?_
        refine oV (v_loadI ty105 rfl) ?_
        refine cal_inv h fun y109 hy109 h => ?_
        refine oT (t_call (r05_parser_fail_w hy109) hT (.same rfl (.same rfl (.same rfl .nil))) (.cons .here (.cons .here (.cons .here (.cons .here .nil)))) (fun R H' hR => ?_))
        obtain ⟨t110, t111, rfl, rfl⟩ := hR
        refine rl_nil ?_
        exact hJ108 _ (t110, t111) h _ (join_imp 3 rfl rfl mod_nil (.cons .here (.cons .here (.cons .here (.cons .here (.cons .here .nil))))))
       ·
        refine w_skip ?_
        exact hJ108 _ (t102, t103) h _ (join_imp 0 rfl rfl mod_nil (.cons .here (.cons .here (.cons .here (.cons .here (.cons .here .nil))))))
     ·
      refine rl_condM (j := 80) h rfl (fun g106 h => ?_) (fun g106 h => ?_)
      ·
       refine op_take rfl rfl (dj := 80) rfl g106 (OpV.t (v_move rfl) ?_)
       refine op_take rfl rfl (dj := 80) rfl g106 (OpV.t (v_nilCheck rfl) ?_)
       refine op_take rfl rfl (dj := 80) rfl g106 (OpV.t (v_fa rfl pt101_0_2 fd101_2) ?_)
       refine op_take rfl rfl (dj := 80) rfl g106 (OpV.t (v_fa rfl pt75_0_2 fd75_2) ?_)
       refine op_take rfl rfl (dj := 80) rfl g106 (t_loadC (R := appv t102 (y101.2.m.names)) ty22 rfl .here isvT1 ?_)
       refine op_take rfl rfl (dj := 80) rfl g106 (OpV.t (v_ln (l := y101.2.m.names) rfl appv_isv sl22) ?_)
       refine op_take rfl rfl (dj := 80) rfl g106 (OpV.t (v_geq rfl rfl) ?_)
       refine oV (v_pick_t rfl g106 rfl) ?_
       exact hJ105 _ () h _ (join_imp 8 rfl rfl (mod_cons (j := 88) rfl (fun _ _ h => h) mod_nil) (.cons .here (.cons .here (.cons .here (.cons .here (.cons .here .nil))))))
      ·
       refine op_pass rfl (dj := 80) rfl g106 ?_
       refine op_pass rfl (dj := 80) rfl g106 ?_
       refine op_pass rfl (dj := 80) rfl g106 ?_
       refine op_pass rfl (dj := 80) rfl g106 ?_
       refine op_pass rfl (dj := 80) rfl g106 ?_
       refine op_pass rfl (dj := 80) rfl g106 ?_
       refine op_pass rfl (dj := 80) rfl g106 ?_
       refine oV (v_pick_f rfl g106 rfl) ?_
       exact hJ105 _ () h _ (join_imp 8 rfl rfl (mod_cons (j := 88) rfl (fun _ _ h => h) mod_nil) (.cons .here (.cons .here (.cons .here (.cons .here (.cons .here .nil))))))
    ·
     refine w_exit ?_
     refine exi_nxt ?_
     refine eL40 _ _ ?_
     refine exi_block ?_
     refine fin_nxt ?_
     refine w_seq ?_
     refine wsr ?_
     refine oV (v_move rfl) ?_
     refine oV (v_nilCheck rfl) ?_
     refine oV (v_fa rfl pt101_0_3 fd101_3) ?_
     refine oT (t_loadC (R := isv (q91.2.e)) ty30 rfl .here (fun _ _ h => h) ?_)
     refine oV (v_eql rfl rfl) ?_
     refine oV (v_move rfl) ?_
     refine rl_j (ι := Bool × GPar) (γ := Tok × Tok) (fun q125 g125 => [(130, isv (q125.1))]) (fun q125 g125 => [boxE b3 ((q125.2.l, q125.2.at_, (q125.2.m.name, q125.2.m.tagging, (TList.mk g125.1 q125.2.m.names), (TList.mk g125.2 q125.2.m.types), (Vh.mk g39.2.2 q125.2.m.nodes.length)), q125.2.e, q125.2.p) : ((List GTok) × Int × (Str × Int × (TList Str) × (TList Int) × Vh) × Int × Int)), tokE g125.1, tokE g125.2, vecE g39.2.2 (q125.2.m.nodes : List GNode)]) (.cons .here (.cons .here (.cons .here (.cons .here .nil)))) h 5 rfl (fun q125 g125 h => ?_) (fun J126 h hJ126 => ?_)
     ·
      refine rnf ?_
      refine w_J (ι := GPar) (γ := Tok × Tok) (fun q131 g131 => []) (fun q131 g131 => [boxE b3 ((q131.l, q131.at_, (q131.m.name, q131.m.tagging, (TList.mk g131.1 q131.m.names), (TList.mk g131.2 q131.m.types), (Vh.mk g39.2.2 q131.m.nodes.length)), q131.e, q131.p) : ((List GTok) × Int × (Str × Int × (TList Str) × (TList Int) × Vh) × Int × Int)), tokE g131.1, tokE g131.2, vecE g39.2.2 (q131.m.nodes : List GNode)]) (.cons .here (.cons .here (.cons .here (.cons .here .nil)))) h (fun q131 g131 h => ?_) (fun J132 h hJ132 => ?_)
      ·
       refine w_seq ?_
       refine wsr ?_
       refine oV (v_move rfl) ?_
       refine oV (v_nilCheck rfl) ?_
       refine oV (v_fa rfl pt101_0_3 fd101_3) ?_
       refine oT (t_loadC (R := isv (q131.e)) ty30 rfl .here (fun _ _ h => h) ?_)
       refine oV (v_neq rfl rfl) ?_
       refine rnf ?_
       refine w_condM h rfl (fun _ h => ?_) (fun _ h => ?_)
       ·
        refine w_seq ?_
        refine w_pinN 8 .here rfl (fun o139 hn140 => ?_)
        refine w_regionD (.v 0 (.v 1 (.v 2 (.v 3 (.v 4 (.v 5 (.v 6 (.v 7 (.v 8 (.t 9 (.v 10 (.v 11 .nil)))))))))))) moOrd (by kernel_rfl) ?_
        refine rd_v rfl (v_build (z := (GMod.mk (Str.mk []) (0 : Int) ([] : (List Str)) ([] : (List Int)) ([] : (List GNode)))) rfl bu75 ze75 .nil) ?_
        refine rd_v rfl (v_move rfl) ?_
        refine rd_v rfl (v_nilCheckP rfl) ?_
        refine rd_v rfl (v_fp rfl pt101_0_4 fd101_4) ?_
        refine rd_v rfl (v_lpC (R := isv (q131.p)) ty3 rfl (List.Mem.head _) (fun _ _ h => h)) ?_
        refine rd_v rfl (v_move rfl) ?_
        refine rd_v rfl (v_nilCheckP rfl) ?_
        refine rd_v rfl (v_fp rfl pt101_0_3 fd101_3) ?_
        refine rd_v rfl (v_lpC (R := isv (q131.e)) ty30 rfl (List.Mem.head _) (fun _ _ h => h)) ?_
        refine rd_t rfl rfl (t_storeC (y' := ((GMod.mk (Str.mk []) (0 : Int) ([] : (List Str)) ([] : (List Int)) ([] : (List GNode))) : GMod)) ty75 rfl rfl (fun _ _ h => h) (.there (.there (.there .here))) rfl ?_)
        refine rd_v rfl (v_assign rfl) ?_
        refine rd_v rfl (v_assign rfl) ?_
        refine rd_nil ?_
        refine fin_unpinN 8 hn140 rfl ?_
        refine fin_nxt ?_
        refine w_ret ?_
        refine ret_nxt ?_
        refine ret_post (.cell rfl (.there .here) ty75 (.tmp rfl (.tmp rfl .nil))) .nil ?_
        obtain rfl := Option.some.inj h
        exact ⟨rfl, rfl⟩
       ·
        refine wkf ?_
        refine wsr ?_
        refine oV (v_move rfl) ?_
        refine oV (v_nilCheck rfl) ?_
        refine oV (v_fa rfl pt101_0_2 fd101_2) ?_
        refine rl_upd (upd_frzB (y := ((q131.l, q131.at_, (q131.m.name, q131.m.tagging, (TList.mk g131.1 q131.m.names), (TList.mk g131.2 q131.m.types), q131.m.nodes), q131.e, q131.p) : ((List GTok) × Int × (Str × Int × (TList Str) × (TList Int) × (List GNode)) × Int × Int))) (.there (.there (.there .here))) .here (fun S hv => (Cv.pair Cv.id (Cv.pair Cv.id (Cv.pair (Cv.pair Cv.id (Cv.pair Cv.id (Cv.pair Cv.id (Cv.pair Cv.id (Cv.vh hv (by first | rfl | simp)))))) (Cv.pair Cv.id Cv.id)))))) ?_
        refine rl_upd (upd_slot (R' := ptrv b3 ((Fld.id (((List GTok) × Int × (Str × Int × (TList Str) × (TList Int) × (List GNode)) × Int × Int))).comp pt101_1_2)) 151 rfl (fun _ _ h => h)) ?_
        refine oT (t_loadC (y := ((q131.l, q131.at_, (q131.m.name, q131.m.tagging, (TList.mk g131.1 q131.m.names), (TList.mk g131.2 q131.m.types), q131.m.nodes), q131.e, q131.p) : ((List GTok) × Int × (Str × Int × (TList Str) × (TList Int) × (List GNode)) × Int × Int))) (R := isv (((q131.m.name, q131.m.tagging, (TList.mk g131.1 q131.m.names), (TList.mk g131.2 q131.m.types), q131.m.nodes)) : ((Str × Int × (TList Str) × (TList Int) × (List GNode))))) ty75 rfl .here (by exact (fun _ _ h => h)) ?_)
        refine rl_upd (upd_slot (R' := isv (q131.m)) 152 rfl (Cv.isv rfl fun S => (fun cs h => GMod.cv (x := q131.m) cs (((Cv.pair Cv.id (Cv.pair Cv.id (Cv.pair Cv.tl (Cv.pair Cv.tl Cv.id)))) : Cv S ((q131.m.name, q131.m.tagging, (TList.mk g131.1 q131.m.names), (TList.mk g131.2 q131.m.types), q131.m.nodes) : (Str × Int × (TList Str) × (TList Int) × (List GNode))) (GMod.to q131.m)) cs h)))) ?_
        refine oT (t_storeC (y' := (q131.m : GMod)) ty75 rfl rfl (fun _ _ h => h) (.there (.there (.there .here))) rfl ?_)
        refine oV (v_assign rfl) ?_
        refine oV (v_assign rfl) ?_
        refine rnf ?_
        refine w_ret ?_
        refine ret_post (.cell rfl .here ty75 (.tmp rfl (.tmp rfl .nil))) .nil ?_
        obtain rfl := Option.some.inj h
        exact ⟨rfl, rfl⟩
      ·
       refine w_condM h rfl (fun _ h => ?_) (fun _ h => ?_)
       ·
        refine w_region ?_
        refine oV (v_move rfl) ?_
        refine oV (v_move rfl) ?_
        refine cal_inv h fun y133 hy133 h => ?_
        refine oT (t_call (r05_parser_now_w hy133) hT (.same rfl .nil) (.cons .here (.cons .here (.cons .here (.cons .here .nil)))) (fun R H' hR => ?_))
        obtain ⟨t134, t135, rfl, rfl⟩ := hR
        refine cal_inv h fun y136 hy136 h => ?_
        refine oT (t_call (r05_parser_fail_w hy136) hT (.same rfl (.same rfl (.same rfl .nil))) (.cons .here (.cons .here (.cons .here (.cons .here .nil)))) (fun R H' hR => ?_))
        obtain ⟨t137, t138, rfl, rfl⟩ := hR
        refine rl_nil ?_
        exact hJ132 _ (t137, t138) h _ (join_imp 4 rfl rfl mod_nil (.cons .here (.cons .here (.cons .here (.cons .here (.cons .here .nil))))))
       ·
        refine w_skip ?_
        exact hJ132 _ (g125.1, g125.2) h _ (join_imp 0 rfl rfl mod_nil (.cons .here (.cons .here (.cons .here (.cons .here (.cons .here .nil))))))
     ·
      refine rl_condM (j := 125) h rfl (fun g127 h => ?_) (fun g127 h => ?_)
      ·
       refine op_take rfl rfl (dj := 125) rfl g127 (OpV.t (v_move rfl) ?_)
       refine cal_inv h fun y128 hy128 h => ?_
       refine op_take rfl rfl (dj := 125) rfl g127 (t_call (r05_parser_now_w hy128) hT (.same rfl .nil) (.cons .here (.cons .here (.cons .here (.cons .here .nil)))) (fun R H' hR => ?_))
       obtain ⟨t129, t130, rfl, rfl⟩ := hR
       refine op_take rfl rfl (dj := 125) rfl g127 (OpV.t (v_field GTok.f0 rfl fd105_0 rfl) ?_)
       refine op_take rfl rfl (dj := 125) rfl g127 (OpV.t (v_neq rfl rfl) ?_)
       refine oV (v_pick_t rfl g127 rfl) ?_
       exact hJ126 _ (t129, t130) h _ (join_imp 5 rfl rfl (mod_cons (j := 130) rfl (fun _ _ h => h) mod_nil) (.cons .here (.cons .here (.cons .here (.cons .here (.cons .here .nil))))))
      ·
       refine op_pass rfl (dj := 125) rfl g127 ?_
       refine op_pass rfl (dj := 125) rfl g127 ?_
       refine op_pass rfl (dj := 125) rfl g127 ?_
       refine op_pass rfl (dj := 125) rfl g127 ?_
       refine oV (v_pick_f rfl g127 rfl) ?_
       exact hJ126 _ (g91.1, g91.2) h _ (join_imp 5 rfl rfl (mod_cons (j := 130) rfl (fun _ _ h => h) mod_nil) (.cons .here (.cons .here (.cons .here (.cons .here (.cons .here .nil))))))
   ·
    refine rl_condM (j := 66) h rfl (fun g93 h => ?_) (fun g93 h => ?_)
    ·
     refine op_take rfl rfl (dj := 66) rfl g93 (OpV.t (v_move rfl) ?_)
     refine cal_inv h fun y94 hy94 h => ?_
     refine op_take rfl rfl (dj := 66) rfl g93 (t_call (r05_parser_is_w hy94) hT (.same rfl (.same rfl .nil)) (.cons .here (.cons .here (.cons .here (.cons .here .nil)))) (fun R H' hR => ?_))
     obtain ⟨t95, t96, rfl, rfl⟩ := hR
     refine op_take rfl rfl (dj := 66) rfl g93 (OpV.t (v_not rfl) ?_)
     refine oV (v_pick_t rfl g93 rfl) ?_
     exact hJ92 _ (t95, t96) h _ (join_imp 4 rfl rfl (mod_cons (j := 70) rfl (fun _ _ h => h) mod_nil) (.cons .here (.cons .here (.cons .here (.cons .here (.cons .here .nil))))))
    ·
     refine op_pass rfl (dj := 66) rfl g93 ?_
     refine op_pass rfl (dj := 66) rfl g93 ?_
     refine op_pass rfl (dj := 66) rfl g93 ?_
     refine oV (v_pick_f rfl g93 rfl) ?_
     exact hJ92 _ (g39.1, g39.2.1) h _ (join_imp 4 rfl rfl (mod_cons (j := 70) rfl (fun _ _ h => h) mod_nil) (.cons .here (.cons .here (.cons .here (.cons .here (.cons .here .nil))))))
  ·
   refine w_block ?_
   refine wsr ?_
   refine oV (v_move rfl) ?_
   refine cal_inv h fun y15 hy15 h => ?_
   refine oT (t_call (r05_parser_is_w hy15) hT (.same rfl (.same rfl .nil)) (.cons .here (.cons .here (.cons .here (.cons .here .nil)))) (fun R H' hR => ?_))
   obtain ⟨t16, t17, rfl, rfl⟩ := hR
   refine oV (v_assign rfl) ?_
   refine rnf ?_
   refine w_condM h rfl (fun _ h => ?_) (fun _ h => ?_)
   ·
    refine w_region ?_
    refine oV (v_move rfl) ?_
    refine cal_inv h fun y18 hy18 h => ?_
    refine oT (t_call (r05_parser_must_w hy18) hT (.same rfl (.same rfl .nil)) (.cons .here (.cons .here (.cons .here (.cons .here .nil)))) (fun R H' hR => ?_))
    obtain ⟨t19, t20, rfl, rfl⟩ := hR
    refine rl_nil ?_
    refine fin_block ?_
    exact hJ14 _ (t19, t20) h _ (join_imp 5 rfl rfl mod_nil (.cons .here (.cons .here (.cons .here (.cons .here (.cons .here .nil))))))
   ·
    refine wsr ?_
    refine oV (v_move rfl) ?_
    refine cal_inv h fun y21 hy21 h => ?_
    refine oT (t_call (r05_parser_is_w hy21) hT (.same rfl (.same rfl .nil)) (.cons .here (.cons .here (.cons .here (.cons .here .nil)))) (fun R H' hR => ?_))
    obtain ⟨t22, t23, rfl, rfl⟩ := hR
    refine oV (v_assign rfl) ?_
    refine rnf ?_
    refine w_condM h rfl (fun _ h => ?_) (fun _ h => ?_)
    ·
     refine wsr ?_
     refine oV (v_move rfl) ?_
     refine oV (v_nilCheck rfl) ?_
     refine oV (v_fa rfl pt101_0_2 fd101_2) ?_
     refine oV (v_fa rfl pt75_0_1 fd75_1) ?_
     refine oT (t_storeC (y' := ((y21.2.l, y21.2.at_, (y21.2.m.name, (1 : Int), (TList.mk t22 y21.2.m.names), (TList.mk t23 y21.2.m.types), (Vh.mk none y21.2.m.nodes.length)), y21.2.e, y21.2.p) : ((List GTok) × Int × (Str × Int × (TList Str) × (TList Int) × Vh) × Int × Int))) ty3 rfl rfl (fun _ _ h => h) .here rfl ?_)
     refine rnf ?_
     refine w_region ?_
     refine oV (v_move rfl) ?_
     refine cal_inv h fun y24 hy24 h => ?_
     refine oT (t_call (r05_parser_must_w hy24) hT (.same rfl (.same rfl .nil)) (.cons .here (.cons .here (.cons .here (.cons .here .nil)))) (fun R H' hR => ?_))
     obtain ⟨t25, t26, rfl, rfl⟩ := hR
     refine rl_nil ?_
     refine fin_block ?_
     exact hJ14 _ (t25, t26) h _ (join_imp 12 rfl rfl mod_nil (.cons .here (.cons .here (.cons .here (.cons .here (.cons .here .nil))))))
    ·
     refine wsr ?_
     refine oV (v_move rfl) ?_
     refine cal_inv h fun y27 hy27 h => ?_
     refine oT (t_call (r05_parser_is_w hy27) hT (.same rfl (.same rfl .nil)) (.cons .here (.cons .here (.cons .here (.cons .here .nil)))) (fun R H' hR => ?_))
     obtain ⟨t28, t29, rfl, rfl⟩ := hR
     refine oV (v_assign rfl) ?_
     refine rnf ?_
     refine w_condM h rfl (fun _ h => ?_) (fun _ h => ?_)
     ·
      refine wsr ?_
      refine oV (v_move rfl) ?_
      refine oV (v_nilCheck rfl) ?_
      refine oV (v_fa rfl pt101_0_2 fd101_2) ?_
      refine oV (v_fa rfl pt75_0_1 fd75_1) ?_
      refine oT (t_storeC (y' := ((y27.2.l, y27.2.at_, (y27.2.m.name, (2 : Int), (TList.mk t28 y27.2.m.names), (TList.mk t29 y27.2.m.types), (Vh.mk none y27.2.m.nodes.length)), y27.2.e, y27.2.p) : ((List GTok) × Int × (Str × Int × (TList Str) × (TList Int) × Vh) × Int × Int))) ty3 rfl rfl (fun _ _ h => h) .here rfl ?_)
      refine rnf ?_
      refine w_region ?_
      refine oV (v_move rfl) ?_
      refine cal_inv h fun y30 hy30 h => ?_
      refine oT (t_call (r05_parser_must_w hy30) hT (.same rfl (.same rfl .nil)) (.cons .here (.cons .here (.cons .here (.cons .here .nil)))) (fun R H' hR => ?_))
      obtain ⟨t31, t32, rfl, rfl⟩ := hR
      refine rl_nil ?_
      refine fin_block ?_
      exact hJ14 _ (t31, t32) h _ (join_imp 15 rfl rfl mod_nil (.cons .here (.cons .here (.cons .here (.cons .here (.cons .here .nil))))))
     ·
      refine w_skip ?_
      refine fin_block ?_
      exact hJ14 _ (t28, t29) h _ (join_imp 9 rfl rfl mod_nil (.cons .here (.cons .here (.cons .here (.cons .here (.cons .here .nil))))))

end Go.Proofs.YtajbipkppngccaaDoor


namespace Go.Proofs.YtajbipkppngccaaDoor
open Go.Sy
set_option maxRecDepth 4000
theorem r07_Find_w : ∀ {a_m : GMod} {a_name : Str} {r : Int}, r07_Find a_m a_name = some r → Ctr Tryd.prog 84 [isv (a_m), isv (a_name)] [] (fun R H => R = oneOf [isv (r)] ∧ H = []) := by
 intro a_m a_name r h
 unfold r07_Find at h
 refine spec_intro Tryd.func84 rfl (by decide +kernel) (by rfl) fun w0 S0 hT => ?_
 refine wsr ?_
 refine oT (t_boxIC (y := a_m) rfl (fun _ _ h => h) ?_)
 refine oV (v_assign rfl) ?_
 refine rnf ?_
 refine w_seq ?_
 refine wsr ?_
 refine oV (v_assign rfl) ?_
 refine rnf ?_
 refine w_block ?_
 refine w_lp (ι := Int) (γ := Unit) (fun q1 g1 => [(5, isv (q1))]) (fun q1 g1 => []) h () (mod_cons (j := 5) rfl (fun _ _ h => h) mod_nil) .nil (fun L2 q1 g1 Q7 h hL2 eL2 rL2 => ?_)
 refine w_seq ?_
 refine wsr ?_
 refine oV (v_move rfl) ?_
 refine oV (v_fi rfl GMod.f2 fd75_2 rfl (z := a_m.names)) ?_
 refine oV (v_loadI ty22 rfl) ?_
 refine oV (v_ln (l := a_m.names) rfl (fun _ _ h => h) sl22) ?_
 refine oV (v_lss rfl rfl) ?_
 refine rnf ?_
 refine w_condM h rfl (fun _ h => ?_) (fun _ h => ?_)
 ·
  refine wkf ?_
  refine w_seq ?_
  refine w_block ?_
  refine wsr ?_
  refine oV (v_fi rfl GMod.f2 fd75_2 rfl (z := a_m.names)) ?_
  refine oV (v_loadI ty22 rfl) ?_
  refine oV (v_move rfl) ?_
  refine cal_inv h fun y5 hy5 h => ?_
  refine oV (v_ix (l := a_m.names) rfl (fun _ _ h => h) rfl sl22 hy5) ?_
  refine oV (v_loadI ty9 rfl) ?_
  refine oV (v_move rfl) ?_
  refine oV (v_eqA eq9 rfl rfl) ?_
  refine rnf ?_
  refine w_condM h rfl (fun _ h => ?_) (fun _ h => ?_)
  ·
   refine wsr ?_
   refine oV (v_move rfl) ?_
   refine oV (v_assign rfl) ?_
   refine rnf ?_
   refine w_ret ?_
   refine ret_block ?_
   refine ret_nxt ?_
   refine rL2 _ ?_
   refine ret_block ?_
   refine ret_nxt ?_
   refine ret_post (.tmp rfl .nil) .nil ?_
   obtain rfl := Option.some.inj h
   exact ⟨rfl, rfl⟩
  ·
   refine w_skip ?_
   refine fin_block ?_
   refine fin_nxt ?_
   refine w_region ?_
   refine oV (v_move rfl) ?_
   refine ck_inv h fun q6 h => ?_
   refine oV (v_add rfl rfl q6) ?_
   refine oV (v_assign rfl) ?_
   refine rl_nil ?_
   exact hL2 _ () h _ (join_imp 16 rfl rfl (mod_cons (j := 5) rfl (fun _ _ h => h) mod_nil) .nil)
 ·
  refine w_exit ?_
  refine exi_nxt ?_
  refine eL2 _ _ ?_
  refine exi_block ?_
  refine fin_nxt ?_
  refine wsr ?_
  refine oV (v_assign rfl) ?_
  refine rnf ?_
  refine w_ret ?_
  refine ret_post (.tmp rfl .nil) .nil ?_
  obtain rfl := Option.some.inj h
  exact ⟨rfl, rfl⟩


theorem h_In_int_w : ∀ {a_l : (List Int)} {a_x : Int} {r : Bool}, h_In_int a_l a_x = some r → Ctr Tryd.prog 24 [isv (a_l), isv (a_x)] [] (fun R H => R = oneOf [isv (r)] ∧ H = []) := by
 intro a_l a_x r h
 unfold h_In_int at h
 refine spec_intro Tryd.func24 rfl (by decide +kernel) (by rfl) fun w0 S0 hT => ?_
 refine wsr ?_
 refine oV (v_assign rfl) ?_
 refine rnf ?_
 refine w_seq ?_
 refine wsr ?_
 refine oV (v_assign rfl) ?_
 refine rnf ?_
 refine w_block ?_
 refine w_lp (ι := Int) (γ := Unit) (fun q1 g1 => [(5, isv (q1))]) (fun q1 g1 => []) h () (mod_cons (j := 5) rfl (fun _ _ h => h) mod_nil) .nil (fun L2 q1 g1 Q7 h hL2 eL2 rL2 => ?_)
 refine w_seq ?_
 refine wsr ?_
 refine oV (v_move rfl) ?_
 refine oV (v_move rfl) ?_
 refine oV (v_ln (l := a_l) rfl (fun _ _ h => h) sl23) ?_
 refine oV (v_lss rfl rfl) ?_
 refine rnf ?_
 refine w_condM h rfl (fun _ h => ?_) (fun _ h => ?_)
 ·
  refine wkf ?_
  refine w_seq ?_
  refine w_block ?_
  refine wsr ?_
  refine oV (v_move rfl) ?_
  refine oV (v_move rfl) ?_
  refine cal_inv h fun y5 hy5 h => ?_
  refine oV (v_ix (l := a_l) rfl (fun _ _ h => h) rfl sl23 hy5) ?_
  refine oV (v_loadI ty3 rfl) ?_
  refine oV (v_move rfl) ?_
  refine oV (v_eql rfl rfl) ?_
  refine rnf ?_
  refine w_condM h rfl (fun _ h => ?_) (fun _ h => ?_)
  ·
   refine wsr ?_
   refine oV (v_assign rfl) ?_
   refine rnf ?_
   refine w_ret ?_
   refine ret_block ?_
   refine ret_nxt ?_
   refine rL2 _ ?_
   refine ret_block ?_
   refine ret_nxt ?_
   refine ret_post (.tmp rfl .nil) .nil ?_
   obtain rfl := Option.some.inj h
   exact ⟨rfl, rfl⟩
  ·
   refine w_skip ?_
   refine fin_block ?_
   refine fin_nxt ?_
   refine w_region ?_
   refine oV (v_move rfl) ?_
   refine ck_inv h fun q6 h => ?_
   refine oV (v_add rfl rfl q6) ?_
   refine oV (v_assign rfl) ?_
   refine rl_nil ?_
   exact hL2 _ () h _ (join_imp 14 rfl rfl (mod_cons (j := 5) rfl (fun _ _ h => h) mod_nil) .nil)
 ·
  refine w_exit ?_
  refine exi_nxt ?_
  refine eL2 _ _ ?_
  refine exi_block ?_
  refine fin_nxt ?_
  refine wsr ?_
  refine oV (v_assign rfl) ?_
  refine rnf ?_
  refine w_ret ?_
  refine ret_post (.tmp rfl .nil) .nil ?_
  obtain rfl := Option.some.inj h
  exact ⟨rfl, rfl⟩


def r07_uses_C (f' : GMod → Int → Int → (List Int) → Option ((List Int) × Bool)) : Prop :=
 ∀ {a_m : GMod} {a_node : Int} {a_depth : Int} {a_l : (List Int)} {t_a_l : Tok} {r : (List Int) × Bool}, f' a_m a_node a_depth a_l = some r → Ctr Tryd.prog 82 [isv (a_m), isv (a_node), isv (a_depth), appv t_a_l (a_l)] [tokE t_a_l] (fun R H => ∃ u1 : Tok, R = oneOf [appv u1 (r.1), isv (r.2)] ∧ H = [tokE u1])
theorem r07_uses_w0 {r07_uses' : GMod → Int → Int → (List Int) → Option ((List Int) × Bool)} (h_r07_uses : r07_uses_C r07_uses') : ∀ {a_m : GMod} {a_node : Int} {a_depth : Int} {a_l : (List Int)} {t_a_l : Tok} {r : (List Int) × Bool}, r07_uses_F r07_uses' a_m a_node a_depth a_l = some r → Ctr Tryd.prog 82 [isv (a_m), isv (a_node), isv (a_depth), appv t_a_l (a_l)] [tokE t_a_l] (fun R H => ∃ u1 : Tok, R = oneOf [appv u1 (r.1), isv (r.2)] ∧ H = [tokE u1]) := by
 intro a_m a_node a_depth a_l t_a_l r h
 unfold r07_uses_F at h
 refine spec_intro Tryd.func82 rfl (by decide +kernel) (by rfl) fun w0 S0 hT => ?_
 refine wsr ?_
 refine oT (t_boxIC (y := a_m) rfl (fun _ _ h => h) ?_)
 refine oV (v_assign rfl) ?_
 refine oV (v_assign rfl) ?_
 refine rnf ?_
 refine w_seq ?_
 refine wsr ?_
 refine oV (v_move rfl) ?_
 refine oV (v_lss rfl rfl) ?_
 refine oV (v_move rfl) ?_
 refine rl_j (ι := Bool) (γ := Unit) (fun q1 g1 => [(24, isv (q1))]) (fun q1 g1 => []) .nil h 6 rfl (fun q1 g1 h => ?_) (fun J2 h hJ2 => ?_)
 ·
  refine oV (v_move rfl) ?_
  refine rl_j (ι := Bool) (γ := Unit) (fun q4 g4 => [(28, isv (q4))]) (fun q4 g4 => []) .nil h 3 rfl (fun q4 g4 h => ?_) (fun J5 h hJ5 => ?_)
  ·
   refine rnf ?_
   refine w_condM h rfl (fun _ h => ?_) (fun _ h => ?_)
   ·
    refine wsr ?_
    refine oV (v_move rfl) ?_
    refine oV (v_assign rfl) ?_
    refine oV (v_assign rfl) ?_
    refine rnf ?_
    refine w_ret ?_
    refine ret_nxt ?_
    refine ret_post (.tmp rfl (.tmp rfl .nil)) (.cons .here .nil) ?_
    obtain rfl := Option.some.inj h
    exact ⟨t_a_l, rfl, rfl⟩
   ·
    refine wkf ?_
    refine wsr ?_
    refine oV (v_fi rfl GMod.f4 fd75_4 rfl (z := a_m.nodes)) ?_
    refine oV (v_loadI ty73 rfl) ?_
    refine oV (v_move rfl) ?_
    refine cal_inv h fun y7 hy7 h => ?_
    refine oV (v_ix (l := a_m.nodes) rfl (fun _ _ h => h) rfl sl73 hy7) ?_
    refine oV (v_loadI ty133 rfl) ?_
    refine oT (t_alloc _ ze133 fun b8 => ?_)
    refine oT (t_storeC (y' := (y7 : GNode)) ty133 rfl rfl (fun _ _ h => h) .here rfl ?_)
    refine rl_upd (upd_imm 10 .here rfl) ?_
    refine rnf ?_
    refine w_seq ?_
    refine wsr ?_
    refine oV (v_fi rfl GNode.f0 fd133_0 rfl (z := y7.kind)) ?_
    refine oV (v_loadI ty3 rfl) ?_
    refine oV (v_eql rfl rfl) ?_
    refine rnf ?_
    refine w_condM h rfl (fun _ h => ?_) (fun _ h => ?_)
    ·
     refine wsr ?_
     refine oV (v_loadI ty75 rfl) ?_
     refine oV (v_fi rfl GNode.f1 fd133_1 rfl (z := y7.name)) ?_
     refine oV (v_loadI ty9 rfl) ?_
     refine cal_inv h fun y9 hy9 h => ?_
     refine oT (t_call (r07_Find_w hy9) hT (.same rfl (.same rfl .nil)) .nil (fun R H' hR => ?_))
     obtain ⟨rfl, rfl⟩ := hR
     refine oV (v_assign rfl) ?_
     refine rnf ?_
     refine w_seq ?_
     refine wsr ?_
     refine oV (v_move rfl) ?_
     refine oV (v_lss rfl rfl) ?_
     refine rnf ?_
     refine w_condM h rfl (fun _ h => ?_) (fun _ h => ?_)
     ·
      refine wsr ?_
      refine oV (v_move rfl) ?_
      refine oV (v_assign rfl) ?_
      refine oV (v_assign rfl) ?_
      refine rnf ?_
      refine w_ret ?_
      refine ret_nxt ?_
      refine ret_nxt ?_
      refine ret_post (.tmp rfl (.tmp rfl .nil)) (.cons .here .nil) ?_
      obtain rfl := Option.some.inj h
      exact ⟨t_a_l, rfl, rfl⟩
     ·
      refine wkf ?_
      refine w_seq ?_
      refine wsr ?_
      refine oV (v_move rfl) ?_
      refine oV (v_move rfl) ?_
      refine cal_inv h fun y10 hy10 h => ?_
      refine oT (t_call (h_In_int_w hy10) hT (.cons rfl appv_isv (.same rfl .nil)) .nil (fun R H' hR => ?_))
      obtain ⟨rfl, rfl⟩ := hR
      refine oV (v_not rfl) ?_
      refine rnf ?_
      refine w_J (ι := (List Int)) (γ := Tok) (fun q11 g11 => [(3, appv g11 (q11))]) (fun q11 g11 => [tokE g11]) (.cons .here .nil) h (fun q11 g11 h => ?_) (fun J12 h hJ12 => ?_)
      ·
       refine wsr ?_
       refine oV (v_move rfl) ?_
       refine oV (v_assign rfl) ?_
       refine oV (v_assign rfl) ?_
       refine rnf ?_
       refine w_ret ?_
       refine ret_nxt ?_
       refine ret_post (.tmp rfl (.tmp rfl .nil)) (.cons .here .nil) ?_
       obtain rfl := Option.some.inj h
       exact ⟨g11, rfl, rfl⟩
      ·
       refine w_condM h rfl (fun _ h => ?_) (fun _ h => ?_)
       ·
        refine w_region ?_
        refine oV (v_move rfl) ?_
        refine oV (v_move rfl) ?_
        refine oT (t_buildSlice (l := ([y9] : (List Int))) el23 (.cons rfl (fun _ _ h => h) .nil) rfl rfl ?_)
        refine asr_inv h fun q15 h => ?_
        refine oT (t_appC (l := a_l) (m := ([y9] : (List Int))) ap23_23 rfl (fun _ _ h => h) rfl appv_isv .here q15 fun t14 => ?_)
        refine oV (v_assign rfl) ?_
        refine rl_nil ?_
        exact hJ12 _ (t14) h _ (join_imp 5 rfl rfl (mod_cons (j := 3) rfl (fun _ _ h => h) mod_nil) (.cons .here .nil))
       ·
        refine w_skip ?_
        exact hJ12 _ (t_a_l) h _ (join_imp 0 rfl rfl (mod_cons (j := 3) rfl (fun _ _ h => h) mod_nil) (.cons .here .nil))
    ·
     refine wkf ?_
     refine wsr ?_
     refine oV (v_assign rfl) ?_
     refine rnf ?_
     refine w_seq ?_
     refine wsr ?_
     refine oV (v_assign rfl) ?_
     refine rnf ?_
     refine w_block ?_
     refine w_lp (ι := (List Int) × Bool × Int) (γ := Tok) (fun q16 g16 => [(3, appv g16 (q16.1)), (12, isv (q16.2.1)), (13, isv (q16.2.2))]) (fun q16 g16 => [tokE g16]) h (t_a_l) (mod_cons (j := 3) rfl (fun _ _ h => h) (mod_cons (j := 12) rfl (fun _ _ h => h) (mod_cons (j := 13) rfl (fun _ _ h => h) mod_nil))) (.cons .here .nil) (fun L17 q16 g16 Q44 h hL17 eL17 rL17 => ?_)
     refine w_seq ?_
     refine wsr ?_
     refine oV (v_move rfl) ?_
     refine oV (v_fi rfl GNode.f5 fd133_5 rfl (z := y7.fields)) ?_
     refine oV (v_loadI ty56 rfl) ?_
     refine oV (v_ln (l := y7.fields) rfl (fun _ _ h => h) sl56) ?_
     refine oV (v_lss rfl rfl) ?_
     refine rnf ?_
     refine w_condM h rfl (fun _ h => ?_) (fun _ h => ?_)
     ·
      refine wkf ?_
      refine w_seq ?_
      refine w_block ?_
      refine wsr ?_
      refine oV (v_assign rfl) ?_
      refine rnf ?_
      refine w_seq ?_
      refine w_regionD (.v 0 (.v 1 (.v 2 (.v 3 (.v 4 (.v 5 (.v 6 (.v 7 (.v 8 (.v 9 (.t 10 (.v 11 (.v 12 (.v 13 (.v 14 (.v 15 .nil)))))))))))))))) moOrd (by kernel_rfl) ?_
      refine rd_v rfl (v_loadI ty75 rfl) ?_
      refine rd_v rfl (v_fi rfl GNode.f5 fd133_5 rfl (z := y7.fields)) ?_
      refine rd_v rfl (v_loadI ty56 rfl) ?_
      refine rd_v rfl (v_move rfl) ?_
      refine cal_inv h fun y28 hy28 h => ?_
      refine rd_v rfl (v_ix (l := y7.fields) rfl (fun _ _ h => h) rfl sl56 hy28) ?_
      refine rd_v rfl (v_fi rfl GFld.f1 fd69_1 rfl (z := y28.ty)) ?_
      refine rd_v rfl (v_loadI ty3 rfl) ?_
      refine rd_v rfl (v_move rfl) ?_
      refine ck_inv h fun q29 h => ?_
      refine rd_v rfl (v_add rfl rfl q29) ?_
      refine rd_v rfl (v_move rfl) ?_
      refine cal_inv h fun y30 hy30 h => ?_
      refine rd_t rfl rfl (t_call (h_r07_uses hy30) hT (.same rfl (.same rfl (.same rfl (.same rfl .nil)))) (.cons .here .nil) (fun R H' hR => ?_))
      obtain ⟨t31, rfl, rfl⟩ := hR
      refine rd_v rfl (v_move rfl) ?_
      refine rd_v rfl (v_extract rfl rfl) ?_
      refine rd_v rfl (v_extract rfl rfl) ?_
      refine rd_v rfl (v_assign rfl) ?_
      refine rd_v rfl (v_assign rfl) ?_
      refine rd_nil ?_
      refine fin_nxt ?_
      refine w_region ?_
      refine oV (v_move rfl) ?_
      refine oV (v_move rfl) ?_
      refine rl_j (ι := Bool) (γ := Unit) (fun q32 g32 => [(78, isv (q32))]) (fun q32 g32 => []) .nil h 2 rfl (fun q32 g32 h => ?_) (fun J33 h hJ33 => ?_)
      ·
       refine oV (v_assign rfl) ?_
       refine rl_nil ?_
       refine fin_block ?_
       refine fin_nxt ?_
       refine w_region ?_
       refine oV (v_move rfl) ?_
       refine ck_inv h fun q35 h => ?_
       refine oV (v_add rfl rfl q35) ?_
       refine oV (v_assign rfl) ?_
       refine rl_nil ?_
       exact hL17 _ (t31) h _ (join_imp 32 rfl rfl (mod_cons (j := 3) rfl (fun _ _ h => h) (mod_cons (j := 12) rfl (fun _ _ h => h) (mod_cons (j := 13) rfl (fun _ _ h => h) mod_nil))) (.cons .here .nil))
      ·
       refine rl_condM (j := 76) h rfl (fun g34 h => ?_) (fun g34 h => ?_)
       ·
        refine op_pass rfl (dj := 76) rfl g34 ?_
        refine oV (v_pick_t rfl g34 rfl) ?_
        exact hJ33 _ () h _ (join_imp 2 rfl rfl (mod_cons (j := 78) rfl (fun _ _ h => h) mod_nil) (.cons .here .nil))
       ·
        refine op_take rfl rfl (dj := 76) rfl g34 (OpV.t (v_move rfl) ?_)
        refine oV (v_pick_f rfl g34 rfl) ?_
        exact hJ33 _ () h _ (join_imp 2 rfl rfl (mod_cons (j := 78) rfl (fun _ _ h => h) mod_nil) (.cons .here .nil))
     ·
      refine w_exit ?_
      refine exi_nxt ?_
      refine eL17 _ _ ?_
      refine exi_block ?_
      refine fin_nxt ?_
      refine w_seq ?_
      refine wsr ?_
      refine oV (v_fi rfl GNode.f0 fd133_0 rfl (z := y7.kind)) ?_
      refine oV (v_loadI ty3 rfl) ?_
      refine oV (v_eql rfl rfl) ?_
      refine rnf ?_
      refine w_J (ι := (List Int) × Bool) (γ := Tok) (fun q36 g36 => [(3, appv g36 (q36.1)), (12, isv (q36.2))]) (fun q36 g36 => [tokE g36]) (.cons .here .nil) h (fun q36 g36 h => ?_) (fun J37 h hJ37 => ?_)
      ·
       refine wsr ?_
       refine oV (v_move rfl) ?_
       refine oV (v_move rfl) ?_
       refine oV (v_assign rfl) ?_
       refine oV (v_assign rfl) ?_
       refine rnf ?_
       refine w_ret ?_
       refine ret_post (.tmp rfl (.tmp rfl .nil)) (.cons .here .nil) ?_
       obtain rfl := Option.some.inj h
       exact ⟨g36, rfl, rfl⟩
      ·
       refine w_condM h rfl (fun _ h => ?_) (fun _ h => ?_)
       ·
        refine wsr ?_
        refine oV (v_assign rfl) ?_
        refine rnf ?_
        refine wsr ?_
        refine oV (v_loadI ty75 rfl) ?_
        refine oV (v_fi rfl GNode.f8 fd133_8 rfl (z := y7.of)) ?_
        refine oV (v_loadI ty3 rfl) ?_
        refine oV (v_move rfl) ?_
        refine ck_inv h fun q38 h => ?_
        refine oV (v_add rfl rfl q38) ?_
        refine oV (v_move rfl) ?_
        refine cal_inv h fun y39 hy39 h => ?_
        refine oT (t_call (h_r07_uses hy39) hT (.same rfl (.same rfl (.same rfl (.same rfl .nil)))) (.cons .here .nil) (fun R H' hR => ?_))
        obtain ⟨t40, rfl, rfl⟩ := hR
        refine oV (v_move rfl) ?_
        refine oV (v_extract rfl rfl) ?_
        refine oV (v_extract rfl rfl) ?_
        refine oV (v_assign rfl) ?_
        refine oV (v_assign rfl) ?_
        refine rnf ?_
        refine w_region ?_
        refine oV (v_move rfl) ?_
        refine oV (v_move rfl) ?_
        refine rl_j (ι := Bool) (γ := Unit) (fun q41 g41 => [(95, isv (q41))]) (fun q41 g41 => []) .nil h 2 rfl (fun q41 g41 h => ?_) (fun J42 h hJ42 => ?_)
        ·
         refine oV (v_assign rfl) ?_
         refine rl_nil ?_
         exact hJ37 _ (t40) h _ (join_imp 17 rfl rfl (mod_cons (j := 3) rfl (fun _ _ h => h) (mod_cons (j := 12) rfl (fun _ _ h => h) mod_nil)) (.cons .here .nil))
        ·
         refine rl_condM (j := 93) h rfl (fun g43 h => ?_) (fun g43 h => ?_)
         ·
          refine op_pass rfl (dj := 93) rfl g43 ?_
          refine oV (v_pick_t rfl g43 rfl) ?_
          exact hJ42 _ () h _ (join_imp 2 rfl rfl (mod_cons (j := 95) rfl (fun _ _ h => h) mod_nil) (.cons .here .nil))
         ·
          refine op_take rfl rfl (dj := 93) rfl g43 (OpV.t (v_move rfl) ?_)
          refine oV (v_pick_f rfl g43 rfl) ?_
          exact hJ42 _ () h _ (join_imp 2 rfl rfl (mod_cons (j := 95) rfl (fun _ _ h => h) mod_nil) (.cons .here .nil))
       ·
        refine w_skip ?_
        exact hJ37 _ (g16) h _ (join_imp 0 rfl rfl (mod_cons (j := 3) rfl (fun _ _ h => h) (mod_cons (j := 12) rfl (fun _ _ h => h) mod_nil)) (.cons .here .nil))
  ·
   refine rl_condM (j := 25) h rfl (fun g6 h => ?_) (fun g6 h => ?_)
   ·
    refine op_pass rfl (dj := 25) rfl g6 ?_
    refine op_pass rfl (dj := 25) rfl g6 ?_
    refine oV (v_pick_t rfl g6 rfl) ?_
    exact hJ5 _ () h _ (join_imp 3 rfl rfl (mod_cons (j := 28) rfl (fun _ _ h => h) mod_nil) (.cons .here .nil))
   ·
    refine op_take rfl rfl (dj := 25) rfl g6 (OpV.t (v_move rfl) ?_)
    refine op_take rfl rfl (dj := 25) rfl g6 (OpV.t (v_gtr rfl rfl) ?_)
    refine oV (v_pick_f rfl g6 rfl) ?_
    exact hJ5 _ () h _ (join_imp 3 rfl rfl (mod_cons (j := 28) rfl (fun _ _ h => h) mod_nil) (.cons .here .nil))
 ·
  refine rl_condM (j := 18) h rfl (fun g3 h => ?_) (fun g3 h => ?_)
  ·
   refine op_pass rfl (dj := 18) rfl g3 ?_
   refine op_pass rfl (dj := 18) rfl g3 ?_
   refine op_pass rfl (dj := 18) rfl g3 ?_
   refine op_pass rfl (dj := 18) rfl g3 ?_
   refine op_pass rfl (dj := 18) rfl g3 ?_
   refine oV (v_pick_t rfl g3 rfl) ?_
   exact hJ2 _ () h _ (join_imp 6 rfl rfl (mod_cons (j := 24) rfl (fun _ _ h => h) mod_nil) (.cons .here .nil))
  ·
   refine op_take rfl rfl (dj := 18) rfl g3 (OpV.t (v_move rfl) ?_)
   refine op_take rfl rfl (dj := 18) rfl g3 (OpV.t (v_fi rfl GMod.f4 fd75_4 rfl (z := a_m.nodes)) ?_)
   refine op_take rfl rfl (dj := 18) rfl g3 (OpV.t (v_loadI ty73 rfl) ?_)
   refine op_take rfl rfl (dj := 18) rfl g3 (OpV.t (v_ln (l := a_m.nodes) rfl (fun _ _ h => h) sl73) ?_)
   refine op_take rfl rfl (dj := 18) rfl g3 (OpV.t (v_geq rfl rfl) ?_)
   refine oV (v_pick_f rfl g3 rfl) ?_
   exact hJ2 _ () h _ (join_imp 6 rfl rfl (mod_cons (j := 24) rfl (fun _ _ h => h) mod_nil) (.cons .here .nil))

theorem r07_uses_grp_w : ∀ n, r07_uses_C (r07_uses n)
 | 0 => fun h => (by cases h)
 | n + 1 => r07_uses_w0 (r07_uses_grp_w n)
theorem r07_uses_w (n : Nat) : r07_uses_C (r07_uses n) := (r07_uses_grp_w n)

theorem r07_reach_w : ∀ {a_graph : (List (List Int))} {a_from_ : Int} {a_to : Int} {r : Bool}, r07_reach a_graph a_from_ a_to = some r → Ctr Tryd.prog 83 [isv (a_graph), isv (a_from_), isv (a_to)] [] (fun R H => R = oneOf [isv (r)] ∧ H = []) := by
 intro a_graph a_from_ a_to r h
 unfold r07_reach at h
 refine spec_intro Tryd.func83 rfl (by decide +kernel) (by rfl) fun w0 S0 hT => ?_
 refine wsr ?_
 refine oV (v_assign rfl) ?_
 refine rnf ?_
 refine wsr ?_
 refine oT (t_buildSlice (l := ([] : (List Int))) el23 .nil rfl rfl ?_)
 refine oV (v_assign rfl) ?_
 refine rnf ?_
 refine wsr ?_
 refine oV (v_move rfl) ?_
 refine oV (v_move rfl) ?_
 refine cal_inv h fun y2 hy2 h => ?_
 refine oV (v_ix (l := a_graph) rfl (fun _ _ h => h) rfl sl49 hy2) ?_
 refine oV (v_loadI ty23 rfl) ?_
 refine asr_inv h fun q4 h => ?_
 refine oT (t_appN (m := y2) ap23_23 rfl rfl (fun _ _ h => h) q4 fun t3 => ?_)
 refine oV (v_assign rfl) ?_
 refine rnf ?_
 refine w_seq ?_
 refine w_block ?_
 refine w_upd (upd_tok) ?_
 refine w_lp (ι := (List Int) × (List Int)) (γ := Tok × Tok) (fun q5 g5 => [(7, appv g5.1 (q5.1)), (8, appv g5.2 (q5.2))]) (fun q5 g5 => [tokE g5.1, tokE g5.2]) h (none, t3) (mod_cons (j := 7) rfl (fun _ _ h => h) (mod_cons (j := 8) rfl (fun _ _ h => h) mod_nil)) (.cons .here (.cons .here .nil)) (fun L6 q5 g5 Q27 h hL6 eL6 rL6 => ?_)
 refine w_seq ?_
 refine wsr ?_
 refine oV (v_move rfl) ?_
 refine oV (v_ln (l := q5.2) rfl appv_isv sl23) ?_
 refine oV (v_gtr rfl rfl) ?_
 refine rnf ?_
 refine w_condM h rfl (fun _ h => ?_) (fun _ h => ?_)
 ·
  refine wkf ?_
  refine w_block ?_
  refine wsr ?_
  refine oV (v_move rfl) ?_
  refine cal_inv h fun y17 hy17 h => ?_
  refine oV (v_ix (l := q5.2) rfl appv_isv rfl sl23 hy17) ?_
  refine oV (v_loadI ty3 rfl) ?_
  refine oV (v_assign rfl) ?_
  refine rnf ?_
  refine wsr ?_
  refine oV (v_move rfl) ?_
  refine asd_inv h fun q18 h => ?_
  refine oT (t_slA rfl sl23 rfl q18.1 q18.2 (.there .here) fun t19 => ?_)
  refine oV (v_assign rfl) ?_
  refine rnf ?_
  refine w_seq ?_
  refine wsr ?_
  refine oV (v_move rfl) ?_
  refine oV (v_move rfl) ?_
  refine oV (v_eql rfl rfl) ?_
  refine rnf ?_
  refine w_condM h rfl (fun _ h => ?_) (fun _ h => ?_)
  ·
   refine wsr ?_
   refine oV (v_assign rfl) ?_
   refine rnf ?_
   refine w_ret ?_
   refine ret_nxt ?_
   refine ret_block ?_
   refine rL6 _ ?_
   refine ret_block ?_
   refine ret_nxt ?_
   refine ret_post (.tmp rfl .nil) .nil ?_
   obtain rfl := Option.some.inj h
   exact ⟨rfl, rfl⟩
  ·
   refine wkf ?_
   refine wsr ?_
   refine oV (v_move rfl) ?_
   refine oV (v_move rfl) ?_
   refine cal_inv h fun y20 hy20 h => ?_
   refine oT (t_call (h_In_int_w hy20) hT (.cons rfl appv_isv (.same rfl .nil)) .nil (fun R H' hR => ?_))
   obtain ⟨rfl, rfl⟩ := hR
   refine oV (v_not rfl) ?_
   refine rnf ?_
   refine w_condM h rfl (fun _ h => ?_) (fun _ h => ?_)
   ·
    refine wsr ?_
    refine oV (v_move rfl) ?_
    refine oV (v_move rfl) ?_
    refine oT (t_buildSlice (l := ([y17] : (List Int))) el23 (.cons rfl (fun _ _ h => h) .nil) rfl rfl ?_)
    refine asr_inv h fun q23 h => ?_
    refine oT (t_appC (l := q5.1) (m := ([y17] : (List Int))) ap23_23 rfl (fun _ _ h => h) rfl appv_isv (.there .here) q23 fun t22 => ?_)
    refine oV (v_assign rfl) ?_
    refine rnf ?_
    refine w_region ?_
    refine oV (v_move rfl) ?_
    refine oV (v_move rfl) ?_
    refine oV (v_move rfl) ?_
    refine cal_inv h fun y24 hy24 h => ?_
    refine oV (v_ix (l := a_graph) rfl (fun _ _ h => h) rfl sl49 hy24) ?_
    refine oV (v_loadI ty23 rfl) ?_
    refine asr_inv h fun q26 h => ?_
    refine oT (t_appC (l := (q5.2.drop ((1 : Int)).toNat)) (m := y24) ap23_23 rfl (fun _ _ h => h) rfl (fun _ _ h => h) (.there .here) q26 fun t25 => ?_)
    refine oV (v_assign rfl) ?_
    refine rl_nil ?_
    refine fin_block ?_
    exact hL6 _ (t22, t25) h _ (join_imp 31 rfl rfl (mod_cons (j := 7) rfl (fun _ _ h => h) (mod_cons (j := 8) rfl (fun _ _ h => h) mod_nil)) (.cons (.there .here) (.cons .here .nil)))
   ·
    refine w_skip ?_
    refine fin_block ?_
    exact hL6 _ (g5.1, t19) h _ (join_imp 19 rfl rfl (mod_cons (j := 7) rfl (fun _ _ h => h) (mod_cons (j := 8) rfl (fun _ _ h => h) mod_nil)) (.cons (.there .here) (.cons .here .nil)))
 ·
  refine w_exit ?_
  refine exi_nxt ?_
  refine eL6 _ _ ?_
  refine exi_block ?_
  refine fin_nxt ?_
  refine wsr ?_
  refine oV (v_assign rfl) ?_
  refine rnf ?_
  refine w_ret ?_
  refine ret_post (.tmp rfl .nil) .nil ?_
  obtain rfl := Option.some.inj h
  exact ⟨rfl, rfl⟩


theorem r07_Order_w : ∀ {a_m : GMod} {r : (List Int) × Int × Int}, r07_Order a_m = some r → Ctr Tryd.prog 57 [isv (a_m)] [] (fun R H => R = oneOf [isv (r.1), isv (r.2.1), isv (r.2.2)] ∧ H = []) := by
 intro a_m r h
 unfold r07_Order at h
 refine spec_intro Tryd.func57 rfl (by decide +kernel) (by rfl) fun w0 S0 hT => ?_
 refine wsr ?_
 refine oT (t_boxIC (y := a_m) rfl (fun _ _ h => h) ?_)
 refine oV (v_assign rfl) ?_
 refine oV (v_assign rfl) ?_
 refine oV (v_assign rfl) ?_
 refine rnf ?_
 refine wsr ?_
 refine oV (v_assign rfl) ?_
 refine rnf ?_
 refine wsr ?_
 refine oV (v_assign rfl) ?_
 refine rnf ?_
 refine w_seq ?_
 refine wsr ?_
 refine oV (v_assign rfl) ?_
 refine rnf ?_
 refine w_block ?_
 refine w_lp (ι := Int) (γ := Unit) (fun q1 g1 => [(7, isv (q1))]) (fun q1 g1 => []) h () (mod_cons (j := 7) rfl (fun _ _ h => h) mod_nil) .nil (fun L2 q1 g1 Q1603 h hL2 eL2 rL2 => ?_)
 refine w_seq ?_
 refine wsr ?_
 refine oV (v_move rfl) ?_
 refine oV (v_fi rfl GMod.f2 fd75_2 rfl (z := a_m.names)) ?_
 refine oV (v_loadI ty22 rfl) ?_
 refine oV (v_ln (l := a_m.names) rfl (fun _ _ h => h) sl22) ?_
 refine oV (v_lss rfl rfl) ?_
 refine rnf ?_
 refine w_condM h rfl (fun _ h => ?_) (fun _ h => ?_)
 ·
  refine wkf ?_
  refine w_seq ?_
  refine w_block ?_
  refine w_seq ?_
  refine w_regionD (.v 0 (.v 1 (.v 2 (.v 3 (.v 4 (.v 5 (.v 6 (.v 7 (.v 8 (.t 9 .nil)))))))))) moOrd (by kernel_rfl) ?_
  refine rd_v rfl (v_fi rfl GMod.f2 fd75_2 rfl (z := a_m.names)) ?_
  refine rd_v rfl (v_loadI ty22 rfl) ?_
  refine rd_v rfl (v_move rfl) ?_
  refine asd_inv h fun q803 h => ?_
  refine rd_v rfl (v_sl (l := a_m.names) rfl (fun _ _ h => h) sl22 (.inl ⟨rfl, rfl⟩) (.inr ⟨_, rfl, rfl⟩) q803.1 q803.2.1 q803.2.2) ?_
  refine rd_v rfl (v_fi rfl GMod.f2 fd75_2 rfl (z := a_m.names)) ?_
  refine rd_v rfl (v_loadI ty22 rfl) ?_
  refine rd_v rfl (v_move rfl) ?_
  refine cal_inv h fun y804 hy804 h => ?_
  refine rd_v rfl (v_ix (l := a_m.names) rfl (fun _ _ h => h) rfl sl22 hy804) ?_
  refine rd_v rfl (v_loadI ty9 rfl) ?_
  refine cal_inv h fun y805 hy805 h => ?_
  refine rd_t rfl rfl (t_call (h_In_string_w hy805) hT (.same rfl (.same rfl .nil)) .nil (fun R H' hR => ?_))
  obtain ⟨rfl, rfl⟩ := hR
  refine rd_nil ?_
  refine fin_nxt ?_
  refine w_condM h rfl (fun _ h => ?_) (fun _ h => ?_)
  ·
   refine wsr ?_
   refine oV (v_move rfl) ?_
   refine oV (v_assign rfl) ?_
   refine oV (v_assign rfl) ?_
   refine oV (v_assign rfl) ?_
   refine rnf ?_
   refine w_ret ?_
   refine ret_block ?_
   refine ret_nxt ?_
   refine rL2 _ ?_
   refine ret_block ?_
   refine ret_nxt ?_
   refine ret_post (.as rfl (nilv_isv (α := Int)) (.tmp rfl (.tmp rfl .nil))) .nil ?_
   obtain rfl := Option.some.inj h
   exact ⟨rfl, rfl⟩
  ·
   refine w_skip ?_
   refine fin_block ?_
   refine fin_nxt ?_
   refine w_region ?_
   refine oV (v_move rfl) ?_
   refine ck_inv h fun q806 h => ?_
   refine oV (v_add rfl rfl q806) ?_
   refine oV (v_assign rfl) ?_
   refine rl_nil ?_
   exact hL2 _ () h _ (join_imp 19 rfl rfl (mod_cons (j := 7) rfl (fun _ _ h => h) mod_nil) .nil)
 ·
  refine w_exit ?_
  refine exi_nxt ?_
  refine eL2 _ _ ?_
  refine exi_block ?_
  refine fin_nxt ?_
  refine w_seq ?_
  refine wsr ?_
  refine oV (v_assign rfl) ?_
  refine rnf ?_
  refine w_block ?_
  refine w_upd (upd_tok) ?_
  refine w_lp (ι := (List (List Int)) × Int × Int) (γ := Tok) (fun q807 g807 => [(5, appv g807 (q807.1)), (6, isv (q807.2.1)), (8, isv (q807.2.2))]) (fun q807 g807 => [tokE g807]) h (none) (mod_cons (j := 5) rfl nilv_appv (mod_cons (j := 6) rfl (fun _ _ h => h) (mod_cons (j := 8) rfl (fun _ _ h => h) mod_nil))) (.cons .here .nil) (fun L808 q807 g807 Q1602 h hL808 eL808 rL808 => ?_)
  refine w_seq ?_
  refine wsr ?_
  refine oV (v_move rfl) ?_
  refine oV (v_fi rfl GMod.f2 fd75_2 rfl (z := a_m.names)) ?_
  refine oV (v_loadI ty22 rfl) ?_
  refine oV (v_ln (l := a_m.names) rfl (fun _ _ h => h) sl22) ?_
  refine oV (v_lss rfl rfl) ?_
  refine rnf ?_
  refine w_condM h rfl (fun _ h => ?_) (fun _ h => ?_)
  ·
   refine wkf ?_
   refine w_seq ?_
   refine w_J (ι := (List (List Int)) × Int) (γ := Tok) (fun q1337 g1337 => [(5, appv g1337 (q1337.1)), (6, isv (q1337.2))]) (fun q1337 g1337 => [tokE g1337]) (.cons .here .nil) h (fun q1337 g1337 h => ?_) (fun J1338 h hJ1338 => ?_)
   ·
    refine w_region ?_
    refine oV (v_move rfl) ?_
    refine ck_inv h fun q1349 h => ?_
    refine oV (v_add rfl rfl q1349) ?_
    refine oV (v_assign rfl) ?_
    refine rl_nil ?_
    exact hL808 _ (g1337) h _ (join_imp 13 rfl rfl (mod_cons (j := 5) rfl (fun _ _ h => h) (mod_cons (j := 6) rfl (fun _ _ h => h) (mod_cons (j := 8) rfl (fun _ _ h => h) mod_nil))) (.cons .here .nil))
   ·
    refine w_block ?_
    refine w_seq ?_
    refine w_regionD (.v 0 (.v 1 (.v 2 (.v 3 (.v 4 (.v 5 (.t 6 (.v 7 (.v 8 (.v 9 (.v 10 (.v 11 .nil)))))))))))) moOrd (by kernel_rfl) ?_
    refine rd_v rfl (v_loadI ty75 rfl) ?_
    refine rd_v rfl (v_fi rfl GMod.f3 fd75_3 rfl (z := a_m.types)) ?_
    refine rd_v rfl (v_loadI ty23 rfl) ?_
    refine rd_v rfl (v_move rfl) ?_
    refine cal_inv h fun y1339 hy1339 h => ?_
    refine rd_v rfl (v_ix (l := a_m.types) rfl (fun _ _ h => h) rfl sl23 hy1339) ?_
    refine rd_v rfl (v_loadI ty3 rfl) ?_
    refine rd_upd (upd_tok) ?_
    refine cal_inv h fun y1341 hy1341 h => ?_
    refine rd_t rfl rfl (t_call (r07_uses_w fuel hy1341) hT (.same rfl (.same rfl (.same rfl (.cons rfl nilv_appv .nil)))) (.cons .here .nil) (fun R H' hR => ?_))
    obtain ⟨t1342, rfl, rfl⟩ := hR
    refine rd_v rfl (v_move rfl) ?_
    refine rd_v rfl (v_extract rfl rfl) ?_
    refine rd_v rfl (v_extract rfl rfl) ?_
    refine rd_v rfl (v_assign rfl) ?_
    refine rd_v rfl (v_assign rfl) ?_
    refine rd_nil ?_
    refine fin_nxt ?_
    refine wsr ?_
    refine oV (v_move rfl) ?_
    refine oV (v_move rfl) ?_
    refine oT (t_buildSlice (l := ([y1341.1] : (List (List Int)))) el49 (.cons rfl appv_isv .nil) rfl rfl ?_)
    refine asr_inv h fun q1345 h => ?_
    refine oT (t_appC (l := q807.1) (m := ([y1341.1] : (List (List Int)))) ap49_49 rfl (fun _ _ h => h) rfl appv_isv (.there .here) q1345 fun t1344 => ?_)
    refine oV (v_assign rfl) ?_
    refine rnf ?_
    refine wsr ?_
    refine oV (v_move rfl) ?_
    refine oV (v_move rfl) ?_
    refine rl_j (ι := Bool) (γ := Unit) (fun q1346 g1346 => [(59, isv (q1346))]) (fun q1346 g1346 => []) .nil h 3 rfl (fun q1346 g1346 h => ?_) (fun J1347 h hJ1347 => ?_)
    ·
     refine rnf ?_
     refine w_condM h rfl (fun _ h => ?_) (fun _ h => ?_)
     ·
      refine w_region ?_
      refine oV (v_move rfl) ?_
      refine oV (v_assign rfl) ?_
      refine rl_nil ?_
      refine fin_block ?_
      exact hJ1338 _ (t1344) h _ (join_imp 22 rfl rfl (mod_cons (j := 5) rfl (fun _ _ h => h) (mod_cons (j := 6) rfl (fun _ _ h => h) mod_nil)) (.cons .here .nil))
     ·
      refine w_skip ?_
      refine fin_block ?_
      exact hJ1338 _ (t1344) h _ (join_imp 20 rfl rfl (mod_cons (j := 5) rfl (fun _ _ h => h) (mod_cons (j := 6) rfl (fun _ _ h => h) mod_nil)) (.cons .here .nil))
    ·
     refine rl_condM (j := 56) h rfl (fun g1348 h => ?_) (fun g1348 h => ?_)
     ·
      refine op_take rfl rfl (dj := 56) rfl g1348 (OpV.t (v_move rfl) ?_)
      refine op_take rfl rfl (dj := 56) rfl g1348 (OpV.t (v_lss rfl rfl) ?_)
      refine oV (v_pick_t rfl g1348 rfl) ?_
      exact hJ1347 _ () h _ (join_imp 3 rfl rfl (mod_cons (j := 59) rfl (fun _ _ h => h) mod_nil) (.cons .here (.cons .here .nil)))
     ·
      refine op_pass rfl (dj := 56) rfl g1348 ?_
      refine op_pass rfl (dj := 56) rfl g1348 ?_
      refine oV (v_pick_f rfl g1348 rfl) ?_
      exact hJ1347 _ () h _ (join_imp 3 rfl rfl (mod_cons (j := 59) rfl (fun _ _ h => h) mod_nil) (.cons .here (.cons .here .nil)))
  ·
   refine w_exit ?_
   refine exi_nxt ?_
   refine eL808 _ _ ?_
   refine exi_block ?_
   refine fin_nxt ?_
   refine w_seq ?_
   refine wsr ?_
   refine oV (v_move rfl) ?_
   refine oV (v_geq rfl rfl) ?_
   refine rnf ?_
   refine w_condM h rfl (fun _ h => ?_) (fun _ h => ?_)
   ·
    refine wsr ?_
    refine oV (v_move rfl) ?_
    refine oV (v_assign rfl) ?_
    refine oV (v_assign rfl) ?_
    refine oV (v_assign rfl) ?_
    refine rnf ?_
    refine w_ret ?_
    refine ret_nxt ?_
    refine ret_post (.as rfl (nilv_isv (α := Int)) (.tmp rfl (.tmp rfl .nil))) .nil ?_
    obtain rfl := Option.some.inj h
    exact ⟨rfl, rfl⟩
   ·
    refine wkf ?_
    refine w_seq ?_
    refine wsr ?_
    refine oV (v_assign rfl) ?_
    refine rnf ?_
    refine w_block ?_
    refine w_lp (ι := Int) (γ := Unit) (fun q1350 g1350 => [(11, isv (q1350))]) (fun q1350 g1350 => []) h () (mod_cons (j := 11) rfl (fun _ _ h => h) mod_nil) .nil (fun L1351 q1350 g1350 Q1600 h hL1351 eL1351 rL1351 => ?_)
    refine w_seq ?_
    refine wsr ?_
    refine oV (v_move rfl) ?_
    refine oV (v_fi rfl GMod.f2 fd75_2 rfl (z := a_m.names)) ?_
    refine oV (v_loadI ty22 rfl) ?_
    refine oV (v_ln (l := a_m.names) rfl (fun _ _ h => h) sl22) ?_
    refine oV (v_lss rfl rfl) ?_
    refine rnf ?_
    refine w_condM h rfl (fun _ h => ?_) (fun _ h => ?_)
    ·
     refine wkf ?_
     refine w_seq ?_
     refine w_block ?_
     refine wsr ?_
     refine oV (v_move rfl) ?_
     refine oV (v_move rfl) ?_
     refine oV (v_move rfl) ?_
     refine cal_inv h fun y1476 hy1476 h => ?_
     refine oT (t_call (r07_reach_w hy1476) hT (.cons rfl appv_isv (.same rfl (.same rfl .nil))) .nil (fun R H' hR => ?_))
     obtain ⟨rfl, rfl⟩ := hR
     refine rnf ?_
     refine w_condM h rfl (fun _ h => ?_) (fun _ h => ?_)
     ·
      refine wsr ?_
      refine oV (v_move rfl) ?_
      refine oV (v_assign rfl) ?_
      refine oV (v_assign rfl) ?_
      refine oV (v_assign rfl) ?_
      refine rnf ?_
      refine w_ret ?_
      refine ret_block ?_
      refine ret_nxt ?_
      refine rL1351 _ ?_
      refine ret_block ?_
      refine ret_nxt ?_
      refine ret_post (.as rfl (nilv_isv (α := Int)) (.tmp rfl (.tmp rfl .nil))) .nil ?_
      obtain rfl := Option.some.inj h
      exact ⟨rfl, rfl⟩
     ·
      refine w_skip ?_
      refine fin_block ?_
      refine fin_nxt ?_
      refine w_region ?_
      refine oV (v_move rfl) ?_
      refine ck_inv h fun q1477 h => ?_
      refine oV (v_add rfl rfl q1477) ?_
      refine oV (v_assign rfl) ?_
      refine rl_nil ?_
      exact hL1351 _ () h _ (join_imp 13 rfl rfl (mod_cons (j := 11) rfl (fun _ _ h => h) mod_nil) (.cons .here .nil))
    ·
     refine w_exit ?_
     refine exi_nxt ?_
     refine eL1351 _ _ ?_
     refine exi_block ?_
     refine fin_nxt ?_
     refine wsr ?_
     refine oV (v_assign rfl) ?_
     refine rnf ?_
     refine w_seq ?_
     refine w_block ?_
     refine w_upd (upd_tok) ?_
     refine w_lp (ι := (List Int)) (γ := Tok) (fun q1478 g1478 => [(12, appv g1478 (q1478))]) (fun q1478 g1478 => [tokE g1478]) h (none) (mod_cons (j := 12) rfl nilv_appv mod_nil) (.cons .here .nil) (fun L1479 q1478 g1478 Q1599 h hL1479 eL1479 rL1479 => ?_)
     refine w_seq ?_
     refine wsr ?_
     refine oV (v_move rfl) ?_
     refine oV (v_ln (l := q1478) rfl appv_isv sl23) ?_
     refine oV (v_fi rfl GMod.f2 fd75_2 rfl (z := a_m.names)) ?_
     refine oV (v_loadI ty22 rfl) ?_
     refine oV (v_ln (l := a_m.names) rfl (fun _ _ h => h) sl22) ?_
     refine oV (v_lss rfl rfl) ?_
     refine rnf ?_
     refine w_condM h rfl (fun _ h => ?_) (fun _ h => ?_)
     ·
      refine wkf ?_
      refine w_block ?_
      refine wsr ?_
      refine oV (v_assign rfl) ?_
      refine rnf ?_
      refine w_block ?_
      refine w_lp (ι := Int) (γ := Unit) (fun q1539 g1539 => [(13, isv (q1539))]) (fun q1539 g1539 => []) h () (mod_cons (j := 13) rfl (fun _ _ h => h) mod_nil) .nil (fun L1540 q1539 g1539 Q1597 h hL1540 eL1540 rL1540 => ?_)
      refine w_seq ?_
      refine wsr ?_
      refine oV (v_move rfl) ?_
      refine oV (v_fi rfl GMod.f2 fd75_2 rfl (z := a_m.names)) ?_
      refine oV (v_loadI ty22 rfl) ?_
      refine oV (v_ln (l := a_m.names) rfl (fun _ _ h => h) sl22) ?_
      refine oV (v_lss rfl rfl) ?_
      refine rnf ?_
      refine w_condM h rfl (fun _ h => ?_) (fun _ h => ?_)
      ·
       refine wkf ?_
       refine w_seq ?_
       refine w_block ?_
       refine wsr ?_
       refine oV (v_move rfl) ?_
       refine oV (v_move rfl) ?_
       refine cal_inv h fun y1569 hy1569 h => ?_
       refine oT (t_call (h_In_int_w hy1569) hT (.cons rfl appv_isv (.same rfl .nil)) .nil (fun R H' hR => ?_))
       obtain ⟨rfl, rfl⟩ := hR
       refine oV (v_not rfl) ?_
       refine oV (v_assign rfl) ?_
       refine rnf ?_
       refine w_seq ?_
       refine wsr ?_
       refine oV (v_assign rfl) ?_
       refine rnf ?_
       refine w_block ?_
       refine w_lp (ι := Bool × Int) (γ := Unit) (fun q1570 g1570 => [(14, isv (q1570.1)), (15, isv (q1570.2))]) (fun q1570 g1570 => []) h () (mod_cons (j := 14) rfl (fun _ _ h => h) (mod_cons (j := 15) rfl (fun _ _ h => h) mod_nil)) .nil (fun L1571 q1570 g1570 Q1596 h hL1571 eL1571 rL1571 => ?_)
       refine w_seq ?_
       refine wsr ?_
       refine oV (v_move rfl) ?_
       refine oV (v_move rfl) ?_
       refine oV (v_move rfl) ?_
       refine cal_inv h fun y1584 hy1584 h => ?_
       refine oV (v_ix (l := q807.1) rfl appv_isv rfl sl49 hy1584) ?_
       refine oV (v_loadI ty23 rfl) ?_
       refine oV (v_ln (l := y1584) rfl (fun _ _ h => h) sl23) ?_
       refine oV (v_lss rfl rfl) ?_
       refine rnf ?_
       refine w_condM h rfl (fun _ h => ?_) (fun _ h => ?_)
       ·
        refine wkf ?_
        refine w_seq ?_
        refine w_block ?_
        refine w_region ?_
        refine oV (v_move rfl) ?_
        refine oV (v_move rfl) ?_
        refine rl_j (ι := Bool) (γ := Unit) (fun q1585 g1585 => [(113, isv (q1585))]) (fun q1585 g1585 => []) .nil h 10 rfl (fun q1585 g1585 h => ?_) (fun J1586 h hJ1586 => ?_)
        ·
         refine oV (v_assign rfl) ?_
         refine rl_nil ?_
         refine fin_block ?_
         refine fin_nxt ?_
         refine w_region ?_
         refine oV (v_move rfl) ?_
         refine ck_inv h fun q1591 h => ?_
         refine oV (v_add rfl rfl q1591) ?_
         refine oV (v_assign rfl) ?_
         refine rl_nil ?_
         exact hL1571 _ () h _ (join_imp 16 rfl rfl (mod_cons (j := 14) rfl (fun _ _ h => h) (mod_cons (j := 15) rfl (fun _ _ h => h) mod_nil)) (.cons .here (.cons .here .nil)))
        ·
         refine rl_condM (j := 103) h rfl (fun g1587 h => ?_) (fun g1587 h => ?_)
         ·
          refine op_take rfl rfl (dj := 103) rfl g1587 (OpV.t (v_move rfl) ?_)
          refine op_take rfl rfl (dj := 103) rfl g1587 (OpV.t (v_move rfl) ?_)
          refine op_take rfl rfl (dj := 103) rfl g1587 (OpV.t (v_move rfl) ?_)
          refine cal_inv h fun y1588 hy1588 h => ?_
          refine op_take rfl rfl (dj := 103) rfl g1587 (OpV.t (v_ix (l := q807.1) rfl appv_isv rfl sl49 hy1588) ?_)
          refine op_take rfl rfl (dj := 103) rfl g1587 (OpV.t (v_loadI ty23 rfl) ?_)
          refine op_take rfl rfl (dj := 103) rfl g1587 (OpV.t (v_move rfl) ?_)
          refine cal_inv h fun y1589 hy1589 h => ?_
          refine op_take rfl rfl (dj := 103) rfl g1587 (OpV.t (v_ix (l := y1588) rfl (fun _ _ h => h) rfl sl23 hy1589) ?_)
          refine op_take rfl rfl (dj := 103) rfl g1587 (OpV.t (v_loadI ty3 rfl) ?_)
          refine cal_inv h fun y1590 hy1590 h => ?_
          refine op_take rfl rfl (dj := 103) rfl g1587 (t_call (h_In_int_w hy1590) hT (.cons rfl appv_isv (.same rfl .nil)) .nil (fun R H' hR => ?_))
          obtain ⟨rfl, rfl⟩ := hR
          refine oV (v_pick_t rfl g1587 rfl) ?_
          exact hJ1586 _ () h _ (join_imp 10 rfl rfl (mod_cons (j := 113) rfl (fun _ _ h => h) mod_nil) (.cons .here (.cons .here .nil)))
         ·
          refine op_pass rfl (dj := 103) rfl g1587 ?_
          refine op_pass rfl (dj := 103) rfl g1587 ?_
          refine op_pass rfl (dj := 103) rfl g1587 ?_
          refine op_pass rfl (dj := 103) rfl g1587 ?_
          refine op_pass rfl (dj := 103) rfl g1587 ?_
          refine op_pass rfl (dj := 103) rfl g1587 ?_
          refine op_pass rfl (dj := 103) rfl g1587 ?_
          refine op_pass rfl (dj := 103) rfl g1587 ?_
          refine op_pass rfl (dj := 103) rfl g1587 ?_
          refine oV (v_pick_f rfl g1587 rfl) ?_
          exact hJ1586 _ () h _ (join_imp 10 rfl rfl (mod_cons (j := 113) rfl (fun _ _ h => h) mod_nil) (.cons .here (.cons .here .nil)))
       ·
        refine w_exit ?_
        refine exi_nxt ?_
        refine eL1571 _ _ ?_
        refine exi_block ?_
        refine fin_nxt ?_
        refine wsr ?_
        refine oV (v_move rfl) ?_
        refine rnf ?_
        refine w_condM h rfl (fun _ h => ?_) (fun _ h => ?_)
        ·
         refine wsr ?_
         refine oV (v_move rfl) ?_
         refine oV (v_move rfl) ?_
         refine oT (t_buildSlice (l := ([q1539] : (List Int))) el23 (.cons rfl (fun _ _ h => h) .nil) rfl rfl ?_)
         refine asr_inv h fun q1594 h => ?_
         refine oT (t_appC (l := q1478) (m := ([q1539] : (List Int))) ap23_23 rfl (fun _ _ h => h) rfl appv_isv .here q1594 fun t1593 => ?_)
         refine oV (v_assign rfl) ?_
         refine rnf ?_
         refine w_exit ?_
         refine exi_pass rfl ?_
         refine exi_nxt ?_
         refine eL1540 _ _ ?_
         refine exi_block ?_
         refine fin_block ?_
         exact hL1479 _ (t1593) h _ (join_imp 35 rfl rfl (mod_cons (j := 12) rfl (fun _ _ h => h) mod_nil) (.cons .here (.cons .here .nil)))
        ·
         refine w_skip ?_
         refine fin_block ?_
         refine fin_nxt ?_
         refine w_region ?_
         refine oV (v_move rfl) ?_
         refine ck_inv h fun q1595 h => ?_
         refine oV (v_add rfl rfl q1595) ?_
         refine oV (v_assign rfl) ?_
         refine rl_nil ?_
         exact hL1540 _ () h _ (join_imp 25 rfl rfl (mod_cons (j := 13) rfl (fun _ _ h => h) mod_nil) (.cons .here (.cons .here .nil)))
      ·
       refine w_exit ?_
       refine exi_nxt ?_
       refine eL1540 _ _ ?_
       refine exi_block ?_
       refine fin_block ?_
       exact hL1479 _ (g1478) h _ (join_imp 14 rfl rfl (mod_cons (j := 12) rfl (fun _ _ h => h) mod_nil) (.cons .here (.cons .here .nil)))
     ·
      refine w_exit ?_
      refine exi_nxt ?_
      refine eL1479 _ _ ?_
      refine exi_block ?_
      refine fin_nxt ?_
      refine wsr ?_
      refine oV (v_move rfl) ?_
      refine oV (v_assign rfl) ?_
      refine oV (v_assign rfl) ?_
      refine oV (v_assign rfl) ?_
      refine rnf ?_
      refine w_ret ?_
      refine ret_post (.as rfl appv_isv (.tmp rfl (.tmp rfl .nil))) .nil ?_
      obtain rfl := Option.some.inj h
      exact ⟨rfl, rfl⟩


theorem r10_maker_fail_w : ∀ {a_x : GMk} {a_e : Int} {b_a_x : Nat} {v_a_x1 : Vt} {r : GMk}, r10_maker_fail a_x a_e = some r → Ctr Tryd.prog 110 [ptrv b_a_x (Fld.id (GMod × Vh × Int)), isv (a_e)] [boxE b_a_x ((a_x.m, (Vh.mk v_a_x1 a_x.l.length), a_x.e) : (GMod × Vh × Int)), vecE v_a_x1 (a_x.l : List GTyp)] (fun R H => R = oneOf [] ∧ H = [boxE b_a_x ((r.m, (Vh.mk v_a_x1 r.l.length), r.e)), vecE v_a_x1 (r.l)]) := by
 intro a_x a_e b_a_x v_a_x1 r h
 unfold r10_maker_fail at h
 refine spec_intro Tryd.func110 rfl (by decide +kernel) (by rfl) fun w0 S0 hT => ?_
 refine wsr ?_
 refine oV (v_move rfl) ?_
 refine oV (v_nilCheck rfl) ?_
 refine oV (v_fa rfl pt113_0_2 fd113_2) ?_
 refine oT (t_loadC (R := isv (a_x.e)) ty30 rfl .here (fun _ _ h => h) ?_)
 refine oV (v_eql rfl rfl) ?_
 refine rnf ?_
 refine w_condM h rfl (fun _ h => ?_) (fun _ h => ?_)
 ·
  refine w_region ?_
  refine oV (v_move rfl) ?_
  refine oV (v_move rfl) ?_
  refine oV (v_nilCheck rfl) ?_
  refine oV (v_fa rfl pt113_0_2 fd113_2) ?_
  refine oT (t_storeC (y' := ((a_x.m, (Vh.mk v_a_x1 a_x.l.length), a_e) : (GMod × Vh × Int))) ty30 rfl rfl (fun _ _ h => h) .here rfl ?_)
  refine rl_nil ?_
  refine fin_post .nil (.cons .here (.cons .here .nil)) ?_
  obtain rfl := Option.some.inj h
  exact ⟨rfl, rfl⟩
 ·
  refine w_skip ?_
  refine fin_post .nil (.cons .here (.cons .here .nil)) ?_
  obtain rfl := Option.some.inj h
  exact ⟨rfl, rfl⟩


theorem r09_Universal_w : ∀ {a_kind : Int} {r : Tag}, r09_Universal a_kind = some r → Ctr Tryd.prog 111 [isv (a_kind)] [] (fun R H => R = oneOf [isv (r)] ∧ H = []) := by
 intro a_kind r h
 unfold r09_Universal at h
 refine spec_intro Tryd.func111 rfl (by decide +kernel) (by rfl) fun w0 S0 hT => ?_
 refine wsr ?_
 refine oT (t_alloc _ ze61 fun b1 => ?_)
 refine rnf ?_
 refine w_seq ?_
 refine wsr ?_
 refine oV (v_move rfl) ?_
 refine rnf ?_
 refine w_block ?_
 refine wsr ?_
 refine oV (v_eql rfl rfl) ?_
 refine oV (v_assign rfl) ?_
 refine rnf ?_
 refine w_condM h rfl (fun _ h => ?_) (fun _ h => ?_)
 ·
  refine wsr ?_
  refine oV (v_build (z := (Tag.mk (0 : Int) (1 : Int))) rfl bu61 ze61 (.cons Tag.f1 fd61_1 rfl (fun _ _ h => h) .nil)) ?_
  refine oT (t_storeC (y' := ((Tag.mk (0 : Int) (1 : Int)) : Tag)) ty61 rfl rfl (fun _ _ h => h) .here rfl ?_)
  refine rnf ?_
  refine w_ret ?_
  refine ret_block ?_
  refine ret_nxt ?_
  refine ret_post (.cell rfl .here ty61 .nil) .nil ?_
  obtain rfl := Option.some.inj h
  exact ⟨rfl, rfl⟩
 ·
  refine wsr ?_
  refine oV (v_eql rfl rfl) ?_
  refine oV (v_assign rfl) ?_
  refine rnf ?_
  refine w_condM h rfl (fun _ h => ?_) (fun _ h => ?_)
  ·
   refine wsr ?_
   refine oV (v_build (z := (Tag.mk (0 : Int) (2 : Int))) rfl bu61 ze61 (.cons Tag.f1 fd61_1 rfl (fun _ _ h => h) .nil)) ?_
   refine oT (t_storeC (y' := ((Tag.mk (0 : Int) (2 : Int)) : Tag)) ty61 rfl rfl (fun _ _ h => h) .here rfl ?_)
   refine rnf ?_
   refine w_ret ?_
   refine ret_block ?_
   refine ret_nxt ?_
   refine ret_post (.cell rfl .here ty61 .nil) .nil ?_
   obtain rfl := Option.some.inj h
   exact ⟨rfl, rfl⟩
  ·
   refine wsr ?_
   refine oV (v_eql rfl rfl) ?_
   refine oV (v_assign rfl) ?_
   refine rnf ?_
   refine w_condM h rfl (fun _ h => ?_) (fun _ h => ?_)
   ·
    refine wsr ?_
    refine oV (v_build (z := (Tag.mk (0 : Int) (4 : Int))) rfl bu61 ze61 (.cons Tag.f1 fd61_1 rfl (fun _ _ h => h) .nil)) ?_
    refine oT (t_storeC (y' := ((Tag.mk (0 : Int) (4 : Int)) : Tag)) ty61 rfl rfl (fun _ _ h => h) .here rfl ?_)
    refine rnf ?_
    refine w_ret ?_
    refine ret_block ?_
    refine ret_nxt ?_
    refine ret_post (.cell rfl .here ty61 .nil) .nil ?_
    obtain rfl := Option.some.inj h
    exact ⟨rfl, rfl⟩
   ·
    refine wsr ?_
    refine oV (v_eql rfl rfl) ?_
    refine oV (v_assign rfl) ?_
    refine rnf ?_
    refine w_condM h rfl (fun _ h => ?_) (fun _ h => ?_)
    ·
     refine wsr ?_
     refine oV (v_build (z := (Tag.mk (0 : Int) (5 : Int))) rfl bu61 ze61 (.cons Tag.f1 fd61_1 rfl (fun _ _ h => h) .nil)) ?_
     refine oT (t_storeC (y' := ((Tag.mk (0 : Int) (5 : Int)) : Tag)) ty61 rfl rfl (fun _ _ h => h) .here rfl ?_)
     refine rnf ?_
     refine w_ret ?_
     refine ret_block ?_
     refine ret_nxt ?_
     refine ret_post (.cell rfl .here ty61 .nil) .nil ?_
     obtain rfl := Option.some.inj h
     exact ⟨rfl, rfl⟩
    ·
     refine wsr ?_
     refine oV (v_eql rfl rfl) ?_
     refine oV (v_assign rfl) ?_
     refine rnf ?_
     refine w_condM h rfl (fun _ h => ?_) (fun _ h => ?_)
     ·
      refine wsr ?_
      refine oV (v_build (z := (Tag.mk (0 : Int) (10 : Int))) rfl bu61 ze61 (.cons Tag.f1 fd61_1 rfl (fun _ _ h => h) .nil)) ?_
      refine oT (t_storeC (y' := ((Tag.mk (0 : Int) (10 : Int)) : Tag)) ty61 rfl rfl (fun _ _ h => h) .here rfl ?_)
      refine rnf ?_
      refine w_ret ?_
      refine ret_block ?_
      refine ret_nxt ?_
      refine ret_post (.cell rfl .here ty61 .nil) .nil ?_
      obtain rfl := Option.some.inj h
      exact ⟨rfl, rfl⟩
     ·
      refine wsr ?_
      refine oV (v_eql rfl rfl) ?_
      refine oV (v_assign rfl) ?_
      refine rnf ?_
      refine w_condM h rfl (fun _ h => ?_) (fun _ h => ?_)
      ·
       refine wsr ?_
       refine oV (v_build (z := (Tag.mk (0 : Int) (12 : Int))) rfl bu61 ze61 (.cons Tag.f1 fd61_1 rfl (fun _ _ h => h) .nil)) ?_
       refine oT (t_storeC (y' := ((Tag.mk (0 : Int) (12 : Int)) : Tag)) ty61 rfl rfl (fun _ _ h => h) .here rfl ?_)
       refine rnf ?_
       refine w_ret ?_
       refine ret_block ?_
       refine ret_nxt ?_
       refine ret_post (.cell rfl .here ty61 .nil) .nil ?_
       obtain rfl := Option.some.inj h
       exact ⟨rfl, rfl⟩
      ·
       refine w_seq ?_
       refine wsr ?_
       refine oV (v_eql rfl rfl) ?_
       refine oV (v_assign rfl) ?_
       refine rnf ?_
       refine w_J (ι := Bool) (γ := Unit) (fun q2 g2 => [(22, isv (q2))]) (fun q2 g2 => []) .nil h (fun q2 g2 h => ?_) (fun J3 h hJ3 => ?_)
       ·
        refine w_condM h rfl (fun _ h => ?_) (fun _ h => ?_)
        ·
         refine wsr ?_
         refine oV (v_build (z := (Tag.mk (0 : Int) (16 : Int))) rfl bu61 ze61 (.cons Tag.f1 fd61_1 rfl (fun _ _ h => h) .nil)) ?_
         refine oT (t_storeC (y' := ((Tag.mk (0 : Int) (16 : Int)) : Tag)) ty61 rfl rfl (fun _ _ h => h) .here rfl ?_)
         refine rnf ?_
         refine w_ret ?_
         refine ret_block ?_
         refine ret_nxt ?_
         refine ret_post (.cell rfl .here ty61 .nil) .nil ?_
         obtain rfl := Option.some.inj h
         exact ⟨rfl, rfl⟩
        ·
         refine wsr ?_
         refine oV (v_eql rfl rfl) ?_
         refine oV (v_assign rfl) ?_
         refine rnf ?_
         refine w_condM h rfl (fun _ h => ?_) (fun _ h => ?_)
         ·
          refine wsr ?_
          refine oV (v_build (z := (Tag.mk (0 : Int) (17 : Int))) rfl bu61 ze61 (.cons Tag.f1 fd61_1 rfl (fun _ _ h => h) .nil)) ?_
          refine oT (t_storeC (y' := ((Tag.mk (0 : Int) (17 : Int)) : Tag)) ty61 rfl rfl (fun _ _ h => h) .here rfl ?_)
          refine rnf ?_
          refine w_ret ?_
          refine ret_block ?_
          refine ret_nxt ?_
          refine ret_post (.cell rfl .here ty61 .nil) .nil ?_
          obtain rfl := Option.some.inj h
          exact ⟨rfl, rfl⟩
         ·
          refine w_skip ?_
          refine fin_block ?_
          refine fin_nxt ?_
          refine wsr ?_
          refine oV (v_build (z := (Tag.mk (0 : Int) (0 : Int))) rfl bu61 ze61 .nil) ?_
          refine oT (t_storeC (y' := ((Tag.mk (0 : Int) (0 : Int)) : Tag)) ty61 rfl rfl (fun _ _ h => h) .here rfl ?_)
          refine rnf ?_
          refine w_ret ?_
          refine ret_post (.cell rfl .here ty61 .nil) .nil ?_
          obtain rfl := Option.some.inj h
          exact ⟨rfl, rfl⟩
       ·
        refine w_condM h rfl (fun _ h => ?_) (fun _ h => ?_)
        ·
         refine w_skip ?_
         exact hJ3 _ () h _ (join_imp 0 rfl rfl (mod_cons (j := 22) rfl (fun _ _ h => h) mod_nil) (.cons .here .nil))
        ·
         refine w_region ?_
         refine oV (v_eql rfl rfl) ?_
         refine oV (v_assign rfl) ?_
         refine rl_nil ?_
         exact hJ3 _ () h _ (join_imp 2 rfl rfl (mod_cons (j := 22) rfl (fun _ _ h => h) mod_nil) (.cons .here .nil))


theorem r08_Check_w : ∀ {a_c : GCon} {a_size : Bool} {r : Int}, r08_Check a_c a_size = some r → Ctr Tryd.prog 112 [isv (a_c), isv (a_size)] [] (fun R H => R = oneOf [isv (r)] ∧ H = []) := by
 intro a_c a_size r h
 unfold r08_Check at h
 refine spec_intro Tryd.func112 rfl (by decide +kernel) (by rfl) fun w0 S0 hT => ?_
 refine wsr ?_
 refine oT (t_boxIC (y := a_c) rfl (fun _ _ h => h) ?_)
 refine oV (v_assign rfl) ?_
 refine rnf ?_
 refine w_seq ?_
 refine wsr ?_
 refine oV (v_fi rfl GCon.f0 fd54_0 rfl (z := a_c.has)) ?_
 refine oV (v_loadI ty4 rfl) ?_
 refine oV (v_not rfl) ?_
 refine rnf ?_
 refine w_condM h rfl (fun _ h => ?_) (fun _ h => ?_)
 ·
  refine wsr ?_
  refine oV (v_assign rfl) ?_
  refine rnf ?_
  refine w_ret ?_
  refine ret_nxt ?_
  refine ret_post (.tmp rfl .nil) .nil ?_
  obtain rfl := Option.some.inj h
  exact ⟨rfl, rfl⟩
 ·
  refine wkf ?_
  refine w_seq ?_
  refine wsr ?_
  refine oV (v_fi rfl GCon.f1 fd54_1 rfl (z := a_c.hasLow)) ?_
  refine oV (v_loadI ty4 rfl) ?_
  refine oV (v_move rfl) ?_
  refine rl_j (ι := Bool) (γ := Unit) (fun q1 g1 => [(13, isv (q1))]) (fun q1 g1 => []) .nil h 3 rfl (fun q1 g1 h => ?_) (fun J2 h hJ2 => ?_)
  ·
   refine oV (v_move rfl) ?_
   refine rl_j (ι := Bool) (γ := Unit) (fun q4 g4 => [(20, isv (q4))]) (fun q4 g4 => []) .nil h 6 rfl (fun q4 g4 h => ?_) (fun J5 h hJ5 => ?_)
   ·
    refine rnf ?_
    refine w_condM h rfl (fun _ h => ?_) (fun _ h => ?_)
    ·
     refine wsr ?_
     refine oV (v_assign rfl) ?_
     refine rnf ?_
     refine w_ret ?_
     refine ret_nxt ?_
     refine ret_post (.tmp rfl .nil) .nil ?_
     obtain rfl := Option.some.inj h
     exact ⟨rfl, rfl⟩
    ·
     refine wkf ?_
     refine w_seq ?_
     refine wsr ?_
     refine oV (v_move rfl) ?_
     refine oV (v_move rfl) ?_
     refine rl_j (ι := Bool) (γ := Unit) (fun q7 g7 => [(50, isv (q7))]) (fun q7 g7 => []) .nil h 28 rfl (fun q7 g7 h => ?_) (fun J8 h hJ8 => ?_)
     ·
      refine rnf ?_
      refine w_condM h rfl (fun _ h => ?_) (fun _ h => ?_)
      ·
       refine wsr ?_
       refine oV (v_assign rfl) ?_
       refine rnf ?_
       refine w_ret ?_
       refine ret_nxt ?_
       refine ret_post (.tmp rfl .nil) .nil ?_
       obtain rfl := Option.some.inj h
       exact ⟨rfl, rfl⟩
      ·
       refine wkf ?_
       refine wsr ?_
       refine oV (v_assign rfl) ?_
       refine rnf ?_
       refine w_ret ?_
       refine ret_post (.tmp rfl .nil) .nil ?_
       obtain rfl := Option.some.inj h
       exact ⟨rfl, rfl⟩
     ·
      refine rl_condM (j := 22) h rfl (fun g9 h => ?_) (fun g9 h => ?_)
      ·
       refine op_take rfl rfl (dj := 22) rfl g9 (OpV.t (v_fi rfl GCon.f1 fd54_1 rfl (z := a_c.hasLow)) ?_)
       refine op_take rfl rfl (dj := 22) rfl g9 (OpV.t (v_loadI ty4 rfl) ?_)
       refine op_take rfl rfl (dj := 22) rfl g9 (OpV.t (v_not rfl) ?_)
       refine op_take rfl rfl (dj := 22) rfl g9 (OpV.t (v_move rfl) ?_)
       refine rl_j (ι := Bool) (γ := Unit) (fun q10 g10 => [(30, isv (q10))]) (fun q10 g10 => []) .nil h 4 rfl (fun q10 g10 h => ?_) (fun J11 h hJ11 => ?_)
       ·
        refine op_take rfl rfl (dj := 22) rfl g9 (OpV.t (v_move rfl) ?_)
        refine rl_j (ι := Bool) (γ := Unit) (fun q13 g13 => [(35, isv (q13))]) (fun q13 g13 => []) .nil h 4 rfl (fun q13 g13 h => ?_) (fun J14 h hJ14 => ?_)
        ·
         refine op_take rfl rfl (dj := 22) rfl g9 (OpV.t (v_move rfl) ?_)
         refine rl_j (ι := Bool) (γ := Unit) (fun q16 g16 => [(49, isv (q16))]) (fun q16 g16 => []) .nil h 13 rfl (fun q16 g16 h => ?_) (fun J17 h hJ17 => ?_)
         ·
          refine oV (v_pick_t rfl g9 rfl) ?_
          exact hJ8 _ () h _ (join_imp 10 rfl rfl (mod_cons (j := 50) rfl (fun _ _ h => h) mod_nil) .nil)
         ·
          refine rl_condM (j := 36) h rfl (fun g18 h => ?_) (fun g18 h => ?_)
          ·
           refine op_pass rfl (dj := 36) rfl g18 ?_
           refine op_pass rfl (dj := 36) rfl g18 ?_
           refine op_pass rfl (dj := 36) rfl g18 ?_
           refine op_passU rfl (dj := 39) rfl ?_
           refine op_passU rfl (dj := 39) rfl ?_
           refine op_passU rfl (dj := 39) rfl ?_
           refine op_passU rfl (dj := 39) rfl ?_
           refine op_passU rfl (dj := 43) rfl ?_
           refine op_passU rfl (dj := 43) rfl ?_
           refine op_passU rfl (dj := 43) rfl ?_
           refine op_passU rfl (dj := 39) rfl ?_
           refine op_pass rfl (dj := 36) rfl g18 ?_
           refine op_take rfl rfl (dj := 22) rfl g9 (OpV.t (v_pick_t rfl g18 rfl) ?_)
           exact hJ17 _ () h _ (join_imp 13 rfl rfl (mod_cons (j := 49) rfl (fun _ _ h => h) mod_nil) .nil)
          ·
           refine op_take rfl rfl (dj := 36) rfl g18 (OpV.t (v_fi rfl GCon.f2 fd54_2 rfl (z := a_c.hasHigh)) ?_)
           refine op_take rfl rfl (dj := 36) rfl g18 (OpV.t (v_loadI ty4 rfl) ?_)
           refine op_take rfl rfl (dj := 36) rfl g18 (OpV.t (v_move rfl) ?_)
           refine rl_j (ι := Bool) (γ := Unit) (fun q19 g19 => [(48, isv (q19))]) (fun q19 g19 => []) .nil h 9 rfl (fun q19 g19 h => ?_) (fun J20 h hJ20 => ?_)
           ·
            refine op_take rfl rfl (dj := 22) rfl g9 (OpV.t (v_pick_f rfl g18 rfl) ?_)
            exact hJ17 _ () h _ (join_imp 5 rfl rfl (mod_cons (j := 49) rfl (fun _ _ h => h) mod_nil) .nil)
           ·
            refine rl_condM (j := 39) h rfl (fun g21 h => ?_) (fun g21 h => ?_)
            ·
             refine op_take rfl rfl (dj := 39) rfl g21 (OpV.t (v_fi rfl GCon.f5 fd54_5 rfl (z := a_c.high)) ?_)
             refine op_take rfl rfl (dj := 39) rfl g21 (OpV.t (v_loadI ty2 rfl) ?_)
             refine op_take rfl rfl (dj := 39) rfl g21 (OpV.t (v_lss rfl rfl) ?_)
             refine op_take rfl rfl (dj := 39) rfl g21 (OpV.t (v_move rfl) ?_)
             refine rl_j (ι := Bool) (γ := Unit) (fun q22 g22 => [(47, isv (q22))]) (fun q22 g22 => []) .nil h 4 rfl (fun q22 g22 h => ?_) (fun J23 h hJ23 => ?_)
             ·
              refine op_take rfl rfl (dj := 36) rfl g18 (OpV.t (v_pick_t rfl g21 rfl) ?_)
              exact hJ20 _ () h _ (join_imp 6 rfl rfl (mod_cons (j := 48) rfl (fun _ _ h => h) mod_nil) .nil)
             ·
              refine rl_condM (j := 43) h rfl (fun g24 h => ?_) (fun g24 h => ?_)
              ·
               refine op_pass rfl (dj := 43) rfl g24 ?_
               refine op_pass rfl (dj := 43) rfl g24 ?_
               refine op_pass rfl (dj := 43) rfl g24 ?_
               refine op_take rfl rfl (dj := 39) rfl g21 (OpV.t (v_pick_t rfl g24 rfl) ?_)
               exact hJ23 _ () h _ (join_imp 4 rfl rfl (mod_cons (j := 47) rfl (fun _ _ h => h) mod_nil) .nil)
              ·
               refine op_take rfl rfl (dj := 43) rfl g24 (OpV.t (v_fi rfl GCon.f5 fd54_5 rfl (z := a_c.high)) ?_)
               refine op_take rfl rfl (dj := 43) rfl g24 (OpV.t (v_loadI ty2 rfl) ?_)
               refine op_take rfl rfl (dj := 43) rfl g24 (OpV.t (v_gtr rfl rfl) ?_)
               refine op_take rfl rfl (dj := 39) rfl g21 (OpV.t (v_pick_f rfl g24 rfl) ?_)
               exact hJ23 _ () h _ (join_imp 4 rfl rfl (mod_cons (j := 47) rfl (fun _ _ h => h) mod_nil) .nil)
            ·
             refine op_pass rfl (dj := 39) rfl g21 ?_
             refine op_pass rfl (dj := 39) rfl g21 ?_
             refine op_pass rfl (dj := 39) rfl g21 ?_
             refine op_pass rfl (dj := 39) rfl g21 ?_
             refine op_passU rfl (dj := 43) rfl ?_
             refine op_passU rfl (dj := 43) rfl ?_
             refine op_passU rfl (dj := 43) rfl ?_
             refine op_pass rfl (dj := 39) rfl g21 ?_
             refine op_take rfl rfl (dj := 36) rfl g18 (OpV.t (v_pick_f rfl g21 rfl) ?_)
             exact hJ20 _ () h _ (join_imp 9 rfl rfl (mod_cons (j := 48) rfl (fun _ _ h => h) mod_nil) .nil)
        ·
         refine rl_condM (j := 31) h rfl (fun g15 h => ?_) (fun g15 h => ?_)
         ·
          refine op_pass rfl (dj := 31) rfl g15 ?_
          refine op_pass rfl (dj := 31) rfl g15 ?_
          refine op_pass rfl (dj := 31) rfl g15 ?_
          refine op_take rfl rfl (dj := 22) rfl g9 (OpV.t (v_pick_t rfl g15 rfl) ?_)
          exact hJ14 _ () h _ (join_imp 4 rfl rfl (mod_cons (j := 35) rfl (fun _ _ h => h) mod_nil) .nil)
         ·
          refine op_take rfl rfl (dj := 31) rfl g15 (OpV.t (v_fi rfl GCon.f4 fd54_4 rfl (z := a_c.low)) ?_)
          refine op_take rfl rfl (dj := 31) rfl g15 (OpV.t (v_loadI ty2 rfl) ?_)
          refine op_take rfl rfl (dj := 31) rfl g15 (OpV.t (v_gtr rfl rfl) ?_)
          refine op_take rfl rfl (dj := 22) rfl g9 (OpV.t (v_pick_f rfl g15 rfl) ?_)
          exact hJ14 _ () h _ (join_imp 4 rfl rfl (mod_cons (j := 35) rfl (fun _ _ h => h) mod_nil) .nil)
       ·
        refine rl_condM (j := 26) h rfl (fun g12 h => ?_) (fun g12 h => ?_)
        ·
         refine op_pass rfl (dj := 26) rfl g12 ?_
         refine op_pass rfl (dj := 26) rfl g12 ?_
         refine op_pass rfl (dj := 26) rfl g12 ?_
         refine op_take rfl rfl (dj := 22) rfl g9 (OpV.t (v_pick_t rfl g12 rfl) ?_)
         exact hJ11 _ () h _ (join_imp 4 rfl rfl (mod_cons (j := 30) rfl (fun _ _ h => h) mod_nil) .nil)
        ·
         refine op_take rfl rfl (dj := 26) rfl g12 (OpV.t (v_fi rfl GCon.f4 fd54_4 rfl (z := a_c.low)) ?_)
         refine op_take rfl rfl (dj := 26) rfl g12 (OpV.t (v_loadI ty2 rfl) ?_)
         refine op_take rfl rfl (dj := 26) rfl g12 (OpV.t (v_lss rfl rfl) ?_)
         refine op_take rfl rfl (dj := 22) rfl g9 (OpV.t (v_pick_f rfl g12 rfl) ?_)
         exact hJ11 _ () h _ (join_imp 4 rfl rfl (mod_cons (j := 30) rfl (fun _ _ h => h) mod_nil) .nil)
      ·
       refine op_pass rfl (dj := 22) rfl g9 ?_
       refine op_pass rfl (dj := 22) rfl g9 ?_
       refine op_pass rfl (dj := 22) rfl g9 ?_
       refine op_pass rfl (dj := 22) rfl g9 ?_
       refine op_passU rfl (dj := 26) rfl ?_
       refine op_passU rfl (dj := 26) rfl ?_
       refine op_passU rfl (dj := 26) rfl ?_
       refine op_pass rfl (dj := 22) rfl g9 ?_
       refine op_pass rfl (dj := 22) rfl g9 ?_
       refine op_passU rfl (dj := 31) rfl ?_
       refine op_passU rfl (dj := 31) rfl ?_
       refine op_passU rfl (dj := 31) rfl ?_
       refine op_pass rfl (dj := 22) rfl g9 ?_
       refine op_pass rfl (dj := 22) rfl g9 ?_
       refine op_passU rfl (dj := 36) rfl ?_
       refine op_passU rfl (dj := 36) rfl ?_
       refine op_passU rfl (dj := 36) rfl ?_
       refine op_passU rfl (dj := 39) rfl ?_
       refine op_passU rfl (dj := 39) rfl ?_
       refine op_passU rfl (dj := 39) rfl ?_
       refine op_passU rfl (dj := 39) rfl ?_
       refine op_passU rfl (dj := 43) rfl ?_
       refine op_passU rfl (dj := 43) rfl ?_
       refine op_passU rfl (dj := 43) rfl ?_
       refine op_passU rfl (dj := 39) rfl ?_
       refine op_passU rfl (dj := 36) rfl ?_
       refine op_pass rfl (dj := 22) rfl g9 ?_
       refine oV (v_pick_f rfl g9 rfl) ?_
       exact hJ8 _ () h _ (join_imp 28 rfl rfl (mod_cons (j := 50) rfl (fun _ _ h => h) mod_nil) .nil)
   ·
    refine rl_condM (j := 14) h rfl (fun g6 h => ?_) (fun g6 h => ?_)
    ·
     refine op_take rfl rfl (dj := 14) rfl g6 (OpV.t (v_fi rfl GCon.f4 fd54_4 rfl (z := a_c.low)) ?_)
     refine op_take rfl rfl (dj := 14) rfl g6 (OpV.t (v_loadI ty2 rfl) ?_)
     refine op_take rfl rfl (dj := 14) rfl g6 (OpV.t (v_fi rfl GCon.f5 fd54_5 rfl (z := a_c.high)) ?_)
     refine op_take rfl rfl (dj := 14) rfl g6 (OpV.t (v_loadI ty2 rfl) ?_)
     refine op_take rfl rfl (dj := 14) rfl g6 (OpV.t (v_gtr rfl rfl) ?_)
     refine oV (v_pick_t rfl g6 rfl) ?_
     exact hJ5 _ () h _ (join_imp 6 rfl rfl (mod_cons (j := 20) rfl (fun _ _ h => h) mod_nil) .nil)
    ·
     refine op_pass rfl (dj := 14) rfl g6 ?_
     refine op_pass rfl (dj := 14) rfl g6 ?_
     refine op_pass rfl (dj := 14) rfl g6 ?_
     refine op_pass rfl (dj := 14) rfl g6 ?_
     refine op_pass rfl (dj := 14) rfl g6 ?_
     refine oV (v_pick_f rfl g6 rfl) ?_
     exact hJ5 _ () h _ (join_imp 6 rfl rfl (mod_cons (j := 20) rfl (fun _ _ h => h) mod_nil) .nil)
  ·
   refine rl_condM (j := 10) h rfl (fun g3 h => ?_) (fun g3 h => ?_)
   ·
    refine op_take rfl rfl (dj := 10) rfl g3 (OpV.t (v_fi rfl GCon.f2 fd54_2 rfl (z := a_c.hasHigh)) ?_)
    refine op_take rfl rfl (dj := 10) rfl g3 (OpV.t (v_loadI ty4 rfl) ?_)
    refine oV (v_pick_t rfl g3 rfl) ?_
    exact hJ2 _ () h _ (join_imp 3 rfl rfl (mod_cons (j := 13) rfl (fun _ _ h => h) mod_nil) .nil)
   ·
    refine op_pass rfl (dj := 10) rfl g3 ?_
    refine op_pass rfl (dj := 10) rfl g3 ?_
    refine oV (v_pick_f rfl g3 rfl) ?_
    exact hJ2 _ () h _ (join_imp 3 rfl rfl (mod_cons (j := 13) rfl (fun _ _ h => h) mod_nil) .nil)


theorem r10_taken_w : ∀ {a_l : (List GItem)} {a_v : Int} {r : Bool}, r10_taken a_l a_v = some r → Ctr Tryd.prog 124 [isv (a_l), isv (a_v)] [] (fun R H => R = oneOf [isv (r)] ∧ H = []) := by
 intro a_l a_v r h
 unfold r10_taken at h
 refine spec_intro Tryd.func124 rfl (by decide +kernel) (by rfl) fun w0 S0 hT => ?_
 refine wsr ?_
 refine oV (v_assign rfl) ?_
 refine rnf ?_
 refine w_seq ?_
 refine wsr ?_
 refine oV (v_assign rfl) ?_
 refine rnf ?_
 refine w_block ?_
 refine w_lp (ι := Int) (γ := Unit) (fun q1 g1 => [(5, isv (q1))]) (fun q1 g1 => []) h () (mod_cons (j := 5) rfl (fun _ _ h => h) mod_nil) .nil (fun L2 q1 g1 Q15 h hL2 eL2 rL2 => ?_)
 refine w_seq ?_
 refine wsr ?_
 refine oV (v_move rfl) ?_
 refine oV (v_move rfl) ?_
 refine oV (v_ln (l := a_l) rfl (fun _ _ h => h) sl55) ?_
 refine oV (v_lss rfl rfl) ?_
 refine rnf ?_
 refine w_condM h rfl (fun _ h => ?_) (fun _ h => ?_)
 ·
  refine wkf ?_
  refine w_seq ?_
  refine w_block ?_
  refine wsr ?_
  refine oV (v_move rfl) ?_
  refine oV (v_move rfl) ?_
  refine cal_inv h fun y9 hy9 h => ?_
  refine oV (v_ix (l := a_l) rfl (fun _ _ h => h) rfl sl55 hy9) ?_
  refine oV (v_fi rfl GItem.f2 fd71_2 rfl (z := y9.has)) ?_
  refine oV (v_loadI ty4 rfl) ?_
  refine oV (v_move rfl) ?_
  refine rl_j (ι := Bool) (γ := Unit) (fun q10 g10 => [(25, isv (q10))]) (fun q10 g10 => []) .nil h 8 rfl (fun q10 g10 h => ?_) (fun J11 h hJ11 => ?_)
  ·
   refine rnf ?_
   refine w_condM h rfl (fun _ h => ?_) (fun _ h => ?_)
   ·
    refine wsr ?_
    refine oV (v_assign rfl) ?_
    refine rnf ?_
    refine w_ret ?_
    refine ret_block ?_
    refine ret_nxt ?_
    refine rL2 _ ?_
    refine ret_block ?_
    refine ret_nxt ?_
    refine ret_post (.tmp rfl .nil) .nil ?_
    obtain rfl := Option.some.inj h
    exact ⟨rfl, rfl⟩
   ·
    refine w_skip ?_
    refine fin_block ?_
    refine fin_nxt ?_
    refine w_region ?_
    refine oV (v_move rfl) ?_
    refine ck_inv h fun q14 h => ?_
    refine oV (v_add rfl rfl q14) ?_
    refine oV (v_assign rfl) ?_
    refine rl_nil ?_
    exact hL2 _ () h _ (join_imp 15 rfl rfl (mod_cons (j := 5) rfl (fun _ _ h => h) mod_nil) .nil)
  ·
   refine rl_condM (j := 17) h rfl (fun g12 h => ?_) (fun g12 h => ?_)
   ·
    refine op_take rfl rfl (dj := 17) rfl g12 (OpV.t (v_move rfl) ?_)
    refine op_take rfl rfl (dj := 17) rfl g12 (OpV.t (v_move rfl) ?_)
    refine cal_inv h fun y13 hy13 h => ?_
    refine op_take rfl rfl (dj := 17) rfl g12 (OpV.t (v_ix (l := a_l) rfl (fun _ _ h => h) rfl sl55 hy13) ?_)
    refine op_take rfl rfl (dj := 17) rfl g12 (OpV.t (v_fi rfl GItem.f1 fd71_1 rfl (z := y13.number)) ?_)
    refine op_take rfl rfl (dj := 17) rfl g12 (OpV.t (v_loadI ty2 rfl) ?_)
    refine op_take rfl rfl (dj := 17) rfl g12 (OpV.t (v_move rfl) ?_)
    refine op_take rfl rfl (dj := 17) rfl g12 (OpV.t (v_eql rfl rfl) ?_)
    refine oV (v_pick_t rfl g12 rfl) ?_
    exact hJ11 _ () h _ (join_imp 8 rfl rfl (mod_cons (j := 25) rfl (fun _ _ h => h) mod_nil) .nil)
   ·
    refine op_pass rfl (dj := 17) rfl g12 ?_
    refine op_pass rfl (dj := 17) rfl g12 ?_
    refine op_pass rfl (dj := 17) rfl g12 ?_
    refine op_pass rfl (dj := 17) rfl g12 ?_
    refine op_pass rfl (dj := 17) rfl g12 ?_
    refine op_pass rfl (dj := 17) rfl g12 ?_
    refine op_pass rfl (dj := 17) rfl g12 ?_
    refine oV (v_pick_f rfl g12 rfl) ?_
    exact hJ11 _ () h _ (join_imp 8 rfl rfl (mod_cons (j := 25) rfl (fun _ _ h => h) mod_nil) .nil)
 ·
  refine w_exit ?_
  refine exi_nxt ?_
  refine eL2 _ _ ?_
  refine exi_block ?_
  refine fin_nxt ?_
  refine wsr ?_
  refine oV (v_assign rfl) ?_
  refine rnf ?_
  refine w_ret ?_
  refine ret_post (.tmp rfl .nil) .nil ?_
  obtain rfl := Option.some.inj h
  exact ⟨rfl, rfl⟩

end Go.Proofs.YtajbipkppngccaaDoor


namespace Go.Proofs.YtajbipkppngccaaDoor
open Go.Sy
set_option maxRecDepth 4000
theorem r10_maker_items_w : ∀ {a_x : GMk} {a_n_ : GNode} {b_a_x : Nat} {v_a_x1 : Vt} {r : (List GItem) × GMk}, r10_maker_items a_x a_n_ = some r → Ctr Tryd.prog 113 [ptrv b_a_x (Fld.id (GMod × Vh × Int)), isv (a_n_)] [boxE b_a_x ((a_x.m, (Vh.mk v_a_x1 a_x.l.length), a_x.e) : (GMod × Vh × Int)), vecE v_a_x1 (a_x.l : List GTyp)] (fun R H => R = oneOf [isv (r.1)] ∧ H = [boxE b_a_x ((r.2.m, (Vh.mk v_a_x1 r.2.l.length), r.2.e)), vecE v_a_x1 (r.2.l)]) := by
 intro a_x a_n_ b_a_x v_a_x1 r h
 unfold r10_maker_items at h
 refine spec_intro Tryd.func113 rfl (by decide +kernel) (by rfl) fun w0 S0 hT => ?_
 refine wsr ?_
 refine oT (t_boxIC (y := a_n_) rfl (fun _ _ h => h) ?_)
 refine oV (v_assign rfl) ?_
 refine rnf ?_
 refine wsr ?_
 refine oV (v_assign rfl) ?_
 refine rnf ?_
 refine wsr ?_
 refine oV (v_assign rfl) ?_
 refine rnf ?_
 refine w_seq ?_
 refine wsr ?_
 refine oV (v_assign rfl) ?_
 refine rnf ?_
 refine w_block ?_
 refine w_upd (upd_tok) ?_
 refine w_lp (ι := (List GItem) × Int × Int) (γ := Tok) (fun q2 g2 => [(5, appv g2 (q2.1)), (6, isv (q2.2.1)), (7, isv (q2.2.2))]) (fun q2 g2 => [tokE g2]) h (none) (mod_cons (j := 5) rfl nilv_appv (mod_cons (j := 6) rfl (fun _ _ h => h) (mod_cons (j := 7) rfl (fun _ _ h => h) mod_nil))) (.cons .here .nil) (fun L3 q2 g2 Q666 h hL3 eL3 rL3 => ?_)
 refine w_seq ?_
 refine wsr ?_
 refine oV (v_move rfl) ?_
 refine oV (v_fi rfl GNode.f6 fd133_6 rfl (z := a_n_.root)) ?_
 refine oV (v_loadI ty3 rfl) ?_
 refine oV (v_lss rfl rfl) ?_
 refine rnf ?_
 refine w_condM h rfl (fun _ h => ?_) (fun _ h => ?_)
 ·
  refine wkf ?_
  refine w_seq ?_
  refine w_block ?_
  refine wsr ?_
  refine oV (v_fi rfl GNode.f4 fd133_4 rfl (z := a_n_.items)) ?_
  refine oV (v_loadI ty55 rfl) ?_
  refine oV (v_move rfl) ?_
  refine cal_inv h fun y335 hy335 h => ?_
  refine oV (v_ix (l := a_n_.items) rfl (fun _ _ h => h) rfl sl55 hy335) ?_
  refine oV (v_loadI ty71 rfl) ?_
  refine oT (t_alloc _ ze71 fun b336 => ?_)
  refine oT (t_storeC (y' := (y335 : GItem)) ty71 rfl rfl (fun _ _ h => h) .here rfl ?_)
  refine rnf ?_
  refine w_seq ?_
  refine wsr ?_
  refine oV (v_fa rfl GItem.f2 fd71_2) ?_
  refine oT (t_loadC (R := isv (y335.has)) ty4 rfl .here (fun _ _ h => h) ?_)
  refine oV (v_not rfl) ?_
  refine rnf ?_
  refine w_J (ι := Int × GItem) (γ := Unit) (fun q337 g337 => [(6, isv (q337.1))]) (fun q337 g337 => [boxE b336 (q337.2 : GItem)]) (.cons .here .nil) h (fun q337 g337 h => ?_) (fun J338 h hJ338 => ?_)
  ·
   refine wsr ?_
   refine oV (v_fa rfl GItem.f2 fd71_2) ?_
   refine oT (t_storeC (y' := ({ q337.2 with has := false } : GItem)) ty4 rfl rfl (fun _ _ h => h) .here rfl ?_)
   refine rnf ?_
   refine w_region ?_
   refine oV (v_move rfl) ?_
   refine oT (t_loadC (R := isv ({ q337.2 with has := false })) ty71 rfl .here (fun _ _ h => h) ?_)
   refine oT (t_buildSlice (l := ([{ q337.2 with has := false }] : (List GItem))) el55 (.cons rfl (fun _ _ h => h) .nil) rfl rfl ?_)
   refine asr_inv h fun q352 h => ?_
   refine oT (t_appC (l := q2.1) (m := ([{ q337.2 with has := false }] : (List GItem))) ap55_55 rfl (fun _ _ h => h) rfl appv_isv (.there .here) q352 fun t351 => ?_)
   refine oV (v_assign rfl) ?_
   refine rl_nil ?_
   refine fin_block ?_
   refine fin_nxt ?_
   refine w_region ?_
   refine oV (v_move rfl) ?_
   refine ck_inv h fun q353 h => ?_
   refine oV (v_add rfl rfl q353) ?_
   refine oV (v_assign rfl) ?_
   refine rl_nil ?_
   exact hL3 _ (t351) h _ (join_imp 26 rfl rfl (mod_cons (j := 5) rfl (fun _ _ h => h) (mod_cons (j := 6) rfl (fun _ _ h => h) (mod_cons (j := 7) rfl (fun _ _ h => h) mod_nil))) (.cons .here (.cons (.there .here) (.cons (.there .here) .nil))))
  ·
   refine w_condM h rfl (fun _ h => ?_) (fun _ h => ?_)
   ·
    refine w_seq ?_
    refine w_block ?_
    refine w_lp (ι := Int) (γ := Unit) (fun q339 g339 => [(6, isv (q339))]) (fun q339 g339 => []) h () (mod_cons (j := 6) rfl (fun _ _ h => h) mod_nil) .nil (fun L340 q339 g339 Q349 h hL340 eL340 rL340 => ?_)
    refine w_seq ?_
    refine wsr ?_
    refine oV (v_fi rfl GNode.f4 fd133_4 rfl (z := a_n_.items)) ?_
    refine oV (v_loadI ty55 rfl) ?_
    refine oV (v_fi rfl GNode.f6 fd133_6 rfl (z := a_n_.root)) ?_
    refine oV (v_loadI ty3 rfl) ?_
    refine asd_inv h fun q345 h => ?_
    refine oV (v_sl (l := a_n_.items) rfl (fun _ _ h => h) sl55 (.inl ⟨rfl, rfl⟩) (.inr ⟨_, rfl, rfl⟩) q345.1 q345.2.1 q345.2.2) ?_
    refine oV (v_move rfl) ?_
    refine cal_inv h fun y346 hy346 h => ?_
    refine oT (t_call (r10_taken_w hy346) hT (.same rfl (.same rfl .nil)) .nil (fun R H' hR => ?_))
    obtain ⟨rfl, rfl⟩ := hR
    refine rnf ?_
    refine w_condM h rfl (fun _ h => ?_) (fun _ h => ?_)
    ·
     refine wkf ?_
     refine w_block ?_
     refine w_region ?_
     refine oV (v_move rfl) ?_
     refine ck_inv h fun q347 h => ?_
     refine oV (v_add rfl rfl q347) ?_
     refine oV (v_assign rfl) ?_
     refine rl_nil ?_
     refine fin_block ?_
     exact hL340 _ () h _ (join_imp 11 rfl rfl (mod_cons (j := 6) rfl (fun _ _ h => h) mod_nil) (.cons .here (.cons .here (.cons .here (.cons .here .nil)))))
    ·
     refine w_exit ?_
     refine exi_nxt ?_
     refine eL340 _ _ ?_
     refine exi_block ?_
     refine fin_nxt ?_
     refine wsr ?_
     refine oV (v_move rfl) ?_
     refine oV (v_fa rfl GItem.f1 fd71_1) ?_
     refine oT (t_storeC (y' := ({ y335 with number := q339 } : GItem)) ty2 rfl rfl (fun _ _ h => h) .here rfl ?_)
     refine rnf ?_
     refine w_region ?_
     refine oV (v_move rfl) ?_
     refine ck_inv h fun q348 h => ?_
     refine oV (v_add rfl rfl q348) ?_
     refine oV (v_assign rfl) ?_
     refine rl_nil ?_
     exact hJ338 _ () h _ (join_imp 13 rfl rfl (mod_cons (j := 6) rfl (fun _ _ h => h) mod_nil) (.cons .here (.cons .here (.cons .here (.cons .here .nil)))))
   ·
    refine w_skip ?_
    exact hJ338 _ () h _ (join_imp 0 rfl rfl (mod_cons (j := 6) rfl (fun _ _ h => h) mod_nil) (.cons .here (.cons .here (.cons .here (.cons .here .nil)))))
 ·
  refine w_exit ?_
  refine exi_nxt ?_
  refine eL3 _ _ ?_
  refine exi_block ?_
  refine fin_nxt ?_
  refine wsr ?_
  refine oV (v_assign rfl) ?_
  refine rnf ?_
  refine wsr ?_
  refine oV (v_assign rfl) ?_
  refine oV (v_assign rfl) ?_
  refine rnf ?_
  refine w_seq ?_
  refine wsr ?_
  refine oV (v_fi rfl GNode.f6 fd133_6 rfl (z := a_n_.root)) ?_
  refine oV (v_loadI ty3 rfl) ?_
  refine oV (v_assign rfl) ?_
  refine rnf ?_
  refine w_block ?_
  refine w_lp (ι := (List GItem) × Int × Bool × Bool × Int) (γ := Tok) (fun q354 g354 => [(5, appv g354 (q354.1)), (9, isv (q354.2.1)), (10, isv (q354.2.2.1)), (11, isv (q354.2.2.2.1)), (12, isv (q354.2.2.2.2))]) (fun q354 g354 => [tokE g354]) h (g2) (mod_cons (j := 5) rfl (fun _ _ h => h) (mod_cons (j := 9) rfl (fun _ _ h => h) (mod_cons (j := 10) rfl (fun _ _ h => h) (mod_cons (j := 11) rfl (fun _ _ h => h) (mod_cons (j := 12) rfl (fun _ _ h => h) mod_nil))))) (.cons .here .nil) (fun L355 q354 g354 Q664 h hL355 eL355 rL355 => ?_)
  refine w_seq ?_
  refine wsr ?_
  refine oV (v_move rfl) ?_
  refine oV (v_fi rfl GNode.f4 fd133_4 rfl (z := a_n_.items)) ?_
  refine oV (v_loadI ty55 rfl) ?_
  refine oV (v_ln (l := a_n_.items) rfl (fun _ _ h => h) sl55) ?_
  refine oV (v_lss rfl rfl) ?_
  refine rnf ?_
  refine w_condM h rfl (fun _ h => ?_) (fun _ h => ?_)
  ·
   refine wkf ?_
   refine w_seq ?_
   refine w_block ?_
   refine wsr ?_
   refine oV (v_fi rfl GNode.f4 fd133_4 rfl (z := a_n_.items)) ?_
   refine oV (v_loadI ty55 rfl) ?_
   refine oV (v_move rfl) ?_
   refine cal_inv h fun y558 hy558 h => ?_
   refine oV (v_ix (l := a_n_.items) rfl (fun _ _ h => h) rfl sl55 hy558) ?_
   refine oV (v_loadI ty71 rfl) ?_
   refine oT (t_alloc _ ze71 fun b559 => ?_)
   refine oT (t_storeC (y' := (y558 : GItem)) ty71 rfl rfl (fun _ _ h => h) .here rfl ?_)
   refine rnf ?_
   refine w_seq ?_
   refine wsr ?_
   refine oV (v_fa rfl GItem.f2 fd71_2) ?_
   refine oT (t_loadC (R := isv (y558.has)) ty4 rfl .here (fun _ _ h => h) ?_)
   refine oV (v_not rfl) ?_
   refine rnf ?_
   refine w_J (ι := GItem) (γ := Unit) (fun q560 g560 => [(13, ptrv b559 (Fld.id GItem))]) (fun q560 g560 => [boxE b559 (q560 : GItem)]) (.cons .here .nil) h (fun q560 g560 h => ?_) (fun J561 h hJ561 => ?_)
   ·
    refine wsr ?_
    refine oV (v_move rfl) ?_
    refine oV (v_move rfl) ?_
    refine rl_j (ι := Bool) (γ := Unit) (fun q591 g591 => [(109, isv (q591))]) (fun q591 g591 => []) .nil h 8 rfl (fun q591 g591 h => ?_) (fun J592 h hJ592 => ?_)
    ·
     refine oV (v_assign rfl) ?_
     refine rnf ?_
     refine wsr ?_
     refine oV (v_fa rfl GItem.f2 fd71_2) ?_
     refine oT (t_storeC (y' := ({ q560 with has := false } : GItem)) ty4 rfl rfl (fun _ _ h => h) .here rfl ?_)
     refine rnf ?_
     refine wsr ?_
     refine oV (v_fa rfl GItem.f1 fd71_1) ?_
     refine oT (t_loadC (R := isv (q560.number)) ty2 rfl .here (fun _ _ h => h) ?_)
     refine oV (v_assign rfl) ?_
     refine oV (v_assign rfl) ?_
     refine rnf ?_
     refine w_region ?_
     refine oV (v_move rfl) ?_
     refine oT (t_loadC (R := isv ({ q560 with has := false })) ty71 rfl .here (fun _ _ h => h) ?_)
     refine oT (t_buildSlice (l := ([{ q560 with has := false }] : (List GItem))) el55 (.cons rfl (fun _ _ h => h) .nil) rfl rfl ?_)
     refine asr_inv h fun q599 h => ?_
     refine oT (t_appC (l := q354.1) (m := ([{ q560 with has := false }] : (List GItem))) ap55_55 rfl (fun _ _ h => h) rfl appv_isv (.there .here) q599 fun t598 => ?_)
     refine oV (v_assign rfl) ?_
     refine rl_nil ?_
     refine fin_block ?_
     refine fin_nxt ?_
     refine w_region ?_
     refine oV (v_move rfl) ?_
     refine ck_inv h fun q600 h => ?_
     refine oV (v_add rfl rfl q600) ?_
     refine oV (v_assign rfl) ?_
     refine rl_nil ?_
     exact hL355 _ (t598) h _ (join_imp 37 rfl rfl (mod_cons (j := 5) rfl (fun _ _ h => h) (mod_cons (j := 9) rfl (fun _ _ h => h) (mod_cons (j := 10) rfl (fun _ _ h => h) (mod_cons (j := 11) rfl (fun _ _ h => h) (mod_cons (j := 12) rfl (fun _ _ h => h) mod_nil))))) (.cons .here (.cons (.there .here) (.cons (.there .here) .nil))))
    ·
     refine rl_condM (j := 101) h rfl (fun g593 h => ?_) (fun g593 h => ?_)
     ·
      refine op_pass rfl (dj := 101) rfl g593 ?_
      refine op_pass rfl (dj := 101) rfl g593 ?_
      refine op_passU rfl (dj := 103) rfl ?_
      refine op_passU rfl (dj := 103) rfl ?_
      refine op_passU rfl (dj := 103) rfl ?_
      refine op_passU rfl (dj := 103) rfl ?_
      refine op_pass rfl (dj := 101) rfl g593 ?_
      refine oV (v_pick_t rfl g593 rfl) ?_
      exact hJ592 _ () h _ (join_imp 8 rfl rfl (mod_cons (j := 109) rfl (fun _ _ h => h) mod_nil) (.cons .here (.cons .here (.cons .here (.cons .here .nil)))))
     ·
      refine op_take rfl rfl (dj := 101) rfl g593 (OpV.t (v_move rfl) ?_)
      refine op_take rfl rfl (dj := 101) rfl g593 (OpV.t (v_move rfl) ?_)
      refine rl_j (ι := Bool) (γ := Unit) (fun q594 g594 => [(108, isv (q594))]) (fun q594 g594 => []) .nil h 5 rfl (fun q594 g594 h => ?_) (fun J595 h hJ595 => ?_)
      ·
       refine oV (v_pick_f rfl g593 rfl) ?_
       exact hJ592 _ () h _ (join_imp 4 rfl rfl (mod_cons (j := 109) rfl (fun _ _ h => h) mod_nil) (.cons .here (.cons .here (.cons .here (.cons .here .nil)))))
      ·
       refine rl_condM (j := 103) h rfl (fun g596 h => ?_) (fun g596 h => ?_)
       ·
        refine op_take rfl rfl (dj := 103) rfl g596 (OpV.t (v_fa rfl GItem.f1 fd71_1) ?_)
        refine op_take rfl rfl (dj := 103) rfl g596 (t_loadC (R := isv (q560.number)) ty2 rfl .here (fun _ _ h => h) ?_)
        refine op_take rfl rfl (dj := 103) rfl g596 (OpV.t (v_move rfl) ?_)
        refine op_take rfl rfl (dj := 103) rfl g596 (OpV.t (v_leq rfl rfl) ?_)
        refine op_take rfl rfl (dj := 101) rfl g593 (OpV.t (v_pick_t rfl g596 rfl) ?_)
        exact hJ595 _ () h _ (join_imp 5 rfl rfl (mod_cons (j := 108) rfl (fun _ _ h => h) mod_nil) (.cons .here (.cons .here (.cons .here (.cons .here .nil)))))
       ·
        refine op_pass rfl (dj := 103) rfl g596 ?_
        refine op_pass rfl (dj := 103) rfl g596 ?_
        refine op_pass rfl (dj := 103) rfl g596 ?_
        refine op_pass rfl (dj := 103) rfl g596 ?_
        refine op_take rfl rfl (dj := 101) rfl g593 (OpV.t (v_pick_f rfl g596 rfl) ?_)
        exact hJ595 _ () h _ (join_imp 5 rfl rfl (mod_cons (j := 108) rfl (fun _ _ h => h) mod_nil) (.cons .here (.cons .here (.cons .here (.cons .here .nil)))))
   ·
    refine w_condM h rfl (fun _ h => ?_) (fun _ h => ?_)
    ·
     refine wsr ?_
     refine oV (v_fa rfl GItem.f1 fd71_1) ?_
     refine oT (t_storeC (y' := ({ y558 with number := (0 : Int) } : GItem)) ty2 rfl rfl (fun _ _ h => h) .here rfl ?_)
     refine rnf ?_
     refine wsr ?_
     refine oV (v_assign rfl) ?_
     refine rnf ?_
     refine w_block ?_
     refine w_lp (ι := Int × GItem) (γ := Unit) (fun q562 g562 => [(13, ptrv b559 (Fld.id GItem)), (14, isv (q562.1))]) (fun q562 g562 => [boxE b559 (q562.2 : GItem)]) h () (mod_cons (j := 13) rfl (fun _ _ h => h) (mod_cons (j := 14) rfl (fun _ _ h => h) mod_nil)) (.cons .here .nil) (fun L563 q562 g562 Q590 h hL563 eL563 rL563 => ?_)
     refine w_seq ?_
     refine wsr ?_
     refine oV (v_move rfl) ?_
     refine oV (v_move rfl) ?_
     refine oV (v_ln (l := q354.1) rfl appv_isv sl55) ?_
     refine oV (v_lss rfl rfl) ?_
     refine rnf ?_
     refine w_condM h rfl (fun _ h => ?_) (fun _ h => ?_)
     ·
      refine wkf ?_
      refine w_seq ?_
      refine w_J (ι := GItem) (γ := Unit) (fun q577 g577 => [(13, ptrv b559 (Fld.id GItem))]) (fun q577 g577 => [boxE b559 (q577 : GItem)]) (.cons .here .nil) h (fun q577 g577 h => ?_) (fun J578 h hJ578 => ?_)
      ·
       refine w_region ?_
       refine oV (v_move rfl) ?_
       refine ck_inv h fun q589 h => ?_
       refine oV (v_add rfl rfl q589) ?_
       refine oV (v_assign rfl) ?_
       refine rl_nil ?_
       exact hL563 _ () h _ (join_imp 10 rfl rfl (mod_cons (j := 13) rfl (fun _ _ h => h) (mod_cons (j := 14) rfl (fun _ _ h => h) mod_nil)) (.cons .here (.cons .here (.cons .here (.cons .here .nil)))))
      ·
       refine w_block ?_
       refine w_seq ?_
       refine wsr ?_
       refine oV (v_move rfl) ?_
       refine oV (v_move rfl) ?_
       refine cal_inv h fun y579 hy579 h => ?_
       refine oV (v_ix (l := q354.1) rfl appv_isv rfl sl55 hy579) ?_
       refine oV (v_fi rfl GItem.f1 fd71_1 rfl (z := y579.number)) ?_
       refine oV (v_loadI ty2 rfl) ?_
       refine oV (v_eql rfl rfl) ?_
       refine rnf ?_
       refine w_condM h rfl (fun _ h => ?_) (fun _ h => ?_)
       ·
        refine wsr ?_
        refine oV (v_move rfl) ?_
        refine cal_inv h fun y580 hy580 h => ?_
        refine oT (t_call (r10_maker_fail_w hy580) hT (.same rfl (.same rfl .nil)) (.cons (.there (.there .here)) (.cons (.there (.there .here)) .nil)) (fun R H' hR => ?_))
        obtain ⟨rfl, rfl⟩ := hR
        refine rnf ?_
        refine wsr ?_
        refine oV (v_assign rfl) ?_
        refine rnf ?_
        refine w_ret ?_
        refine ret_nxt ?_
        refine ret_block ?_
        refine ret_nxt ?_
        refine rL563 _ ?_
        refine ret_block ?_
        refine ret_nxt ?_
        refine ret_block ?_
        refine ret_nxt ?_
        refine rL355 _ ?_
        refine ret_block ?_
        refine ret_nxt ?_
        refine ret_post (.as rfl (nilv_isv (α := GItem)) .nil) (.cons .here (.cons .here .nil)) ?_
        obtain rfl := Option.some.inj h
        exact ⟨rfl, rfl⟩
       ·
        refine wkf ?_
        refine w_seq ?_
        refine w_pinN 13 .here rfl (fun o581 hn582 => ?_)
        refine w_regionD (.v 0 (.v 1 (.v 2 (.v 3 (.v 4 (.v 5 (.v 6 (.v 7 (.v 8 (.v 9 (.v 10 (.v 11 .nil)))))))))))) moOrd (by kernel_rfl) ?_
        refine rd_v rfl (v_move rfl) ?_
        refine rd_v rfl (v_eql rfl rfl) ?_
        refine rd_v rfl (v_move rfl) ?_
        refine rd_j (ι := Bool) (γ := Unit) (fun q583 g583 => [(92, isv (q583))]) (fun q583 g583 => []) .nil h 9 rfl (fun q583 g583 h => ?_) (fun J584 h hJ584 => ?_)
        ·
         refine rd_nil ?_
         refine fin_unpinN 13 hn582 rfl ?_
         refine fin_nxt ?_
         refine w_condM h rfl (fun _ h => ?_) (fun _ h => ?_)
         ·
          refine w_region ?_
          refine oV (v_move rfl) ?_
          refine oV (v_move rfl) ?_
          refine cal_inv h fun y587 hy587 h => ?_
          refine oV (v_ix (l := q354.1) rfl appv_isv rfl sl55 hy587) ?_
          refine oV (v_fi rfl GItem.f1 fd71_1 rfl (z := y587.number)) ?_
          refine oV (v_loadI ty2 rfl) ?_
          refine ck_inv h fun q588 h => ?_
          refine oV (v_add rfl rfl q588) ?_
          refine oV (v_fa rfl GItem.f1 fd71_1) ?_
          refine oT (t_storeC (y' := ({ q562.2 with number := (y587.number + (1 : Int)) } : GItem)) ty2 rfl rfl (fun _ _ h => h) .here rfl ?_)
          refine rl_nil ?_
          refine fin_block ?_
          exact hJ578 _ () h _ (join_imp 19 rfl rfl (mod_cons (j := 13) rfl (fun _ _ h => h) mod_nil) (.cons .here (.cons .here (.cons .here (.cons .here .nil)))))
         ·
          refine w_skip ?_
          refine fin_block ?_
          exact hJ578 _ () h _ (join_imp 12 rfl rfl (mod_cons (j := 13) rfl (fun _ _ h => h) mod_nil) (.cons .here (.cons .here (.cons .here (.cons .here .nil)))))
        ·
         refine rd_condM (j := 83) h rfl (fun g585 h => ?_) (fun g585 h => ?_)
         ·
          refine rd_passV rfl rfl (dj := 83) rfl g585 ?_
          refine rd_passV rfl rfl (dj := 83) rfl g585 ?_
          refine rd_passV rfl rfl (dj := 83) rfl g585 ?_
          refine rd_passV rfl rfl (dj := 83) rfl g585 ?_
          refine rd_passV rfl rfl (dj := 83) rfl g585 ?_
          refine rd_passV rfl rfl (dj := 83) rfl g585 ?_
          refine rd_passV rfl rfl (dj := 83) rfl g585 ?_
          refine rd_passV rfl rfl (dj := 83) rfl g585 ?_
          refine rd_v rfl (v_pick_t rfl g585 rfl) ?_
          exact hJ584 _ () h _ (join_imp 9 rfl rfl (mod_cons (j := 92) rfl (fun _ _ h => h) mod_nil) (.cons .here (.cons .here (.cons .here .nil))))
         ·
          refine rd_vt rfl rfl (dj := 83) rfl g585 (v_move rfl) ?_
          refine rd_vt rfl rfl (dj := 83) rfl g585 (v_move rfl) ?_
          refine cal_inv h fun y586 hy586 h => ?_
          refine rd_vt rfl rfl (dj := 83) rfl g585 (v_ix (l := q354.1) rfl appv_isv rfl sl55 hy586) ?_
          refine rd_vt rfl rfl (dj := 83) rfl g585 (v_fi rfl GItem.f1 fd71_1 rfl (z := y586.number)) ?_
          refine rd_vt rfl rfl (dj := 83) rfl g585 (v_loadI ty2 rfl) ?_
          refine rd_vt rfl rfl (dj := 83) rfl g585 (v_fp rfl GItem.f1 fd71_1) ?_
          refine rd_vt rfl rfl (dj := 83) rfl g585 (v_lpC (R := isv (q562.2.number)) ty2 rfl (List.Mem.head _) (fun _ _ h => h)) ?_
          refine rd_vt rfl rfl (dj := 83) rfl g585 (v_geq rfl rfl) ?_
          refine rd_v rfl (v_pick_f rfl g585 rfl) ?_
          exact hJ584 _ () h _ (join_imp 9 rfl rfl (mod_cons (j := 92) rfl (fun _ _ h => h) mod_nil) (.cons .here (.cons .here (.cons .here .nil))))
     ·
      refine w_exit ?_
      refine exi_nxt ?_
      refine eL563 _ _ ?_
      refine exi_block ?_
      exact hJ561 _ () h _ (join_imp 8 rfl rfl (mod_cons (j := 13) rfl (fun _ _ h => h) mod_nil) (.cons .here (.cons .here (.cons .here (.cons .here .nil)))))
    ·
     refine w_skip ?_
     exact hJ561 _ () h _ (join_imp 0 rfl rfl (mod_cons (j := 13) rfl (fun _ _ h => h) mod_nil) (.cons .here (.cons .here (.cons .here (.cons .here .nil)))))
  ·
   refine w_exit ?_
   refine exi_nxt ?_
   refine eL355 _ _ ?_
   refine exi_block ?_
   refine fin_nxt ?_
   refine w_seq ?_
   refine wsr ?_
   refine oV (v_assign rfl) ?_
   refine rnf ?_
   refine w_block ?_
   refine w_lp (ι := Bool × Int) (γ := Unit) (fun q601 g601 => [(11, isv (q601.1)), (15, isv (q601.2))]) (fun q601 g601 => []) h () (mod_cons (j := 11) rfl (fun _ _ h => h) (mod_cons (j := 15) rfl (fun _ _ h => h) mod_nil)) .nil (fun L602 q601 g601 Q663 h hL602 eL602 rL602 => ?_)
   refine w_seq ?_
   refine wsr ?_
   refine oV (v_move rfl) ?_
   refine oV (v_move rfl) ?_
   refine oV (v_ln (l := q354.1) rfl appv_isv sl55) ?_
   refine oV (v_lss rfl rfl) ?_
   refine rnf ?_
   refine w_condM h rfl (fun _ h => ?_) (fun _ h => ?_)
   ·
    refine wkf ?_
    refine w_seq ?_
    refine w_block ?_
    refine wsr ?_
    refine oV (v_assign rfl) ?_
    refine rnf ?_
    refine w_block ?_
    refine w_lp (ι := Bool × Int) (γ := Unit) (fun q633 g633 => [(11, isv (q633.1)), (16, isv (q633.2))]) (fun q633 g633 => []) h () (mod_cons (j := 11) rfl (fun _ _ h => h) (mod_cons (j := 16) rfl (fun _ _ h => h) mod_nil)) .nil (fun L634 q633 g633 Q659 h hL634 eL634 rL634 => ?_)
    refine w_seq ?_
    refine wsr ?_
    refine oV (v_move rfl) ?_
    refine oV (v_move rfl) ?_
    refine oV (v_lss rfl rfl) ?_
    refine rnf ?_
    refine w_condM h rfl (fun _ h => ?_) (fun _ h => ?_)
    ·
     refine wkf ?_
     refine w_seq ?_
     refine w_block ?_
     refine w_regionD (.v 0 (.v 1 (.v 2 (.v 3 (.v 4 (.v 5 (.v 6 (.v 7 (.v 8 (.v 9 (.v 10 (.v 11 (.v 12 (.v 13 (.v 14 (.v 15 (.v 16 (.v 17 (.v 18 (.v 19 (.v 20 (.v 21 (.v 22 (.v 23 (.v 24 (.v 25 (.v 26 (.v 27 .nil)))))))))))))))))))))))))))) moOrd (by kernel_rfl) ?_
     refine rd_v rfl (v_move rfl) ?_
     refine rd_v rfl (v_move rfl) ?_
     refine rd_j (ι := Bool) (γ := Unit) (fun q647 g647 => [(141, isv (q647))]) (fun q647 g647 => []) .nil h 12 rfl (fun q647 g647 h => ?_) (fun J648 h hJ648 => ?_)
     ·
      refine rd_v rfl (v_move rfl) ?_
      refine rd_j (ι := Bool) (γ := Unit) (fun q652 g652 => [(154, isv (q652))]) (fun q652 g652 => []) .nil h 12 rfl (fun q652 g652 h => ?_) (fun J653 h hJ653 => ?_)
      ·
       refine rd_v rfl (v_assign rfl) ?_
       refine rd_nil ?_
       refine fin_block ?_
       refine fin_nxt ?_
       refine w_region ?_
       refine oV (v_move rfl) ?_
       refine ck_inv h fun q657 h => ?_
       refine oV (v_add rfl rfl q657) ?_
       refine oV (v_assign rfl) ?_
       refine rl_nil ?_
       exact hL634 _ () h _ (join_imp 14 rfl rfl (mod_cons (j := 11) rfl (fun _ _ h => h) (mod_cons (j := 16) rfl (fun _ _ h => h) mod_nil)) (.cons .here (.cons .here (.cons .here .nil))))
      ·
       refine rd_condM (j := 142) h rfl (fun g654 h => ?_) (fun g654 h => ?_)
       ·
        refine rd_passV rfl rfl (dj := 142) rfl g654 ?_
        refine rd_passV rfl rfl (dj := 142) rfl g654 ?_
        refine rd_passV rfl rfl (dj := 142) rfl g654 ?_
        refine rd_passV rfl rfl (dj := 142) rfl g654 ?_
        refine rd_passV rfl rfl (dj := 142) rfl g654 ?_
        refine rd_passV rfl rfl (dj := 142) rfl g654 ?_
        refine rd_passV rfl rfl (dj := 142) rfl g654 ?_
        refine rd_passV rfl rfl (dj := 142) rfl g654 ?_
        refine rd_passV rfl rfl (dj := 142) rfl g654 ?_
        refine rd_passV rfl rfl (dj := 142) rfl g654 ?_
        refine rd_passV rfl rfl (dj := 142) rfl g654 ?_
        refine rd_v rfl (v_pick_t rfl g654 rfl) ?_
        exact hJ653 _ () h _ (join_imp 12 rfl rfl (mod_cons (j := 154) rfl (fun _ _ h => h) mod_nil) (.cons .here (.cons .here (.cons .here .nil))))
       ·
        refine rd_vt rfl rfl (dj := 142) rfl g654 (v_move rfl) ?_
        refine rd_vt rfl rfl (dj := 142) rfl g654 (v_move rfl) ?_
        refine cal_inv h fun y655 hy655 h => ?_
        refine rd_vt rfl rfl (dj := 142) rfl g654 (v_ix (l := q354.1) rfl appv_isv rfl sl55 hy655) ?_
        refine rd_vt rfl rfl (dj := 142) rfl g654 (v_fi rfl GItem.f1 fd71_1 rfl (z := y655.number)) ?_
        refine rd_vt rfl rfl (dj := 142) rfl g654 (v_loadI ty2 rfl) ?_
        refine rd_vt rfl rfl (dj := 142) rfl g654 (v_move rfl) ?_
        refine rd_vt rfl rfl (dj := 142) rfl g654 (v_move rfl) ?_
        refine cal_inv h fun y656 hy656 h => ?_
        refine rd_vt rfl rfl (dj := 142) rfl g654 (v_ix (l := q354.1) rfl appv_isv rfl sl55 hy656) ?_
        refine rd_vt rfl rfl (dj := 142) rfl g654 (v_fi rfl GItem.f1 fd71_1 rfl (z := y656.number)) ?_
        refine rd_vt rfl rfl (dj := 142) rfl g654 (v_loadI ty2 rfl) ?_
        refine rd_vt rfl rfl (dj := 142) rfl g654 (v_eql rfl rfl) ?_
        refine rd_v rfl (v_pick_f rfl g654 rfl) ?_
        exact hJ653 _ () h _ (join_imp 12 rfl rfl (mod_cons (j := 154) rfl (fun _ _ h => h) mod_nil) (.cons .here (.cons .here (.cons .here .nil))))
     ·
      refine rd_condM (j := 129) h rfl (fun g649 h => ?_) (fun g649 h => ?_)
      ·
       refine rd_passV rfl rfl (dj := 129) rfl g649 ?_
       refine rd_passV rfl rfl (dj := 129) rfl g649 ?_
       refine rd_passV rfl rfl (dj := 129) rfl g649 ?_
       refine rd_passV rfl rfl (dj := 129) rfl g649 ?_
       refine rd_passV rfl rfl (dj := 129) rfl g649 ?_
       refine rd_passV rfl rfl (dj := 129) rfl g649 ?_
       refine rd_passV rfl rfl (dj := 129) rfl g649 ?_
       refine rd_passV rfl rfl (dj := 129) rfl g649 ?_
       refine rd_passV rfl rfl (dj := 129) rfl g649 ?_
       refine rd_passV rfl rfl (dj := 129) rfl g649 ?_
       refine rd_passV rfl rfl (dj := 129) rfl g649 ?_
       refine rd_v rfl (v_pick_t rfl g649 rfl) ?_
       exact hJ648 _ () h _ (join_imp 12 rfl rfl (mod_cons (j := 141) rfl (fun _ _ h => h) mod_nil) (.cons .here (.cons .here (.cons .here .nil))))
      ·
       refine rd_vt rfl rfl (dj := 129) rfl g649 (v_move rfl) ?_
       refine rd_vt rfl rfl (dj := 129) rfl g649 (v_move rfl) ?_
       refine cal_inv h fun y650 hy650 h => ?_
       refine rd_vt rfl rfl (dj := 129) rfl g649 (v_ix (l := q354.1) rfl appv_isv rfl sl55 hy650) ?_
       refine rd_vt rfl rfl (dj := 129) rfl g649 (v_fi rfl GItem.f0 fd71_0 rfl (z := y650.name)) ?_
       refine rd_vt rfl rfl (dj := 129) rfl g649 (v_loadI ty9 rfl) ?_
       refine rd_vt rfl rfl (dj := 129) rfl g649 (v_move rfl) ?_
       refine rd_vt rfl rfl (dj := 129) rfl g649 (v_move rfl) ?_
       refine cal_inv h fun y651 hy651 h => ?_
       refine rd_vt rfl rfl (dj := 129) rfl g649 (v_ix (l := q354.1) rfl appv_isv rfl sl55 hy651) ?_
       refine rd_vt rfl rfl (dj := 129) rfl g649 (v_fi rfl GItem.f0 fd71_0 rfl (z := y651.name)) ?_
       refine rd_vt rfl rfl (dj := 129) rfl g649 (v_loadI ty9 rfl) ?_
       refine rd_vt rfl rfl (dj := 129) rfl g649 (v_eqA eq9 rfl rfl) ?_
       refine rd_v rfl (v_pick_f rfl g649 rfl) ?_
       exact hJ648 _ () h _ (join_imp 12 rfl rfl (mod_cons (j := 141) rfl (fun _ _ h => h) mod_nil) (.cons .here (.cons .here (.cons .here .nil))))
    ·
     refine w_exit ?_
     refine exi_nxt ?_
     refine eL634 _ _ ?_
     refine exi_block ?_
     refine fin_block ?_
     refine fin_nxt ?_
     refine w_region ?_
     refine oV (v_move rfl) ?_
     refine ck_inv h fun q658 h => ?_
     refine oV (v_add rfl rfl q658) ?_
     refine oV (v_assign rfl) ?_
     refine rl_nil ?_
     exact hL602 _ () h _ (join_imp 15 rfl rfl (mod_cons (j := 11) rfl (fun _ _ h => h) (mod_cons (j := 15) rfl (fun _ _ h => h) mod_nil)) (.cons .here (.cons .here (.cons .here .nil))))
   ·
    refine w_exit ?_
    refine exi_nxt ?_
    refine eL602 _ _ ?_
    refine exi_block ?_
    refine fin_nxt ?_
    refine w_seq ?_
    refine wsr ?_
    refine oV (v_move rfl) ?_
    refine rnf ?_
    refine w_J (ι := GMk) (γ := Unit) (fun q660 g660 => []) (fun q660 g660 => [boxE b_a_x ((q660.m, (Vh.mk v_a_x1 q660.l.length), q660.e) : (GMod × Vh × Int)), vecE v_a_x1 (q660.l : List GTyp)]) (.cons (.there .here) (.cons (.there .here) .nil)) h (fun q660 g660 h => ?_) (fun J661 h hJ661 => ?_)
    ·
     refine wsr ?_
     refine oV (v_move rfl) ?_
     refine oV (v_assign rfl) ?_
     refine rnf ?_
     refine w_ret ?_
     refine ret_post (.as rfl appv_isv .nil) (.cons .here (.cons .here .nil)) ?_
     obtain rfl := Option.some.inj h
     exact ⟨rfl, rfl⟩
    ·
     refine w_condM h rfl (fun _ h => ?_) (fun _ h => ?_)
     ·
      refine w_region ?_
      refine oV (v_move rfl) ?_
      refine cal_inv h fun y662 hy662 h => ?_
      refine oT (t_call (r10_maker_fail_w hy662) hT (.same rfl (.same rfl .nil)) (.cons (.there .here) (.cons (.there .here) .nil)) (fun R H' hR => ?_))
      obtain ⟨rfl, rfl⟩ := hR
      refine rl_nil ?_
      exact hJ661 _ () h _ (join_imp 2 rfl rfl mod_nil (.cons .here (.cons .here (.cons .here .nil))))
     ·
      refine w_skip ?_
      exact hJ661 _ () h _ (join_imp 0 rfl rfl mod_nil (.cons (.there .here) (.cons (.there .here) (.cons .here .nil))))


theorem r08_Within_w : ∀ {a_c : GCon} {a_v : Int} {r : Bool}, r08_Within a_c a_v = some r → Ctr Tryd.prog 134 [isv (a_c), isv (a_v)] [] (fun R H => R = oneOf [isv (r)] ∧ H = []) := by
 intro a_c a_v r h
 unfold r08_Within at h
 refine spec_intro Tryd.func134 rfl (by decide +kernel) (by rfl) fun w0 S0 hT => ?_
 refine wsr ?_
 refine oT (t_boxIC (y := a_c) rfl (fun _ _ h => h) ?_)
 refine oV (v_assign rfl) ?_
 refine rnf ?_
 refine wsr ?_
 refine oV (v_fi rfl GCon.f0 fd54_0 rfl (z := a_c.has)) ?_
 refine oV (v_loadI ty4 rfl) ?_
 refine oV (v_not rfl) ?_
 refine oV (v_move rfl) ?_
 refine rl_j (ι := Bool) (γ := Unit) (fun q1 g1 => [(29, isv (q1))]) (fun q1 g1 => []) .nil h 21 rfl (fun q1 g1 h => ?_) (fun J2 h hJ2 => ?_)
 ·
  refine oV (v_assign rfl) ?_
  refine rnf ?_
  refine w_ret ?_
  refine ret_post (.tmp rfl .nil) .nil ?_
  obtain rfl := Option.some.inj h
  exact ⟨rfl, rfl⟩
 ·
  refine rl_condM (j := 8) h rfl (fun g3 h => ?_) (fun g3 h => ?_)
  ·
   refine op_pass rfl (dj := 8) rfl g3 ?_
   refine op_pass rfl (dj := 8) rfl g3 ?_
   refine op_pass rfl (dj := 8) rfl g3 ?_
   refine op_pass rfl (dj := 8) rfl g3 ?_
   refine op_passU rfl (dj := 12) rfl ?_
   refine op_passU rfl (dj := 12) rfl ?_
   refine op_passU rfl (dj := 12) rfl ?_
   refine op_passU rfl (dj := 12) rfl ?_
   refine op_pass rfl (dj := 8) rfl g3 ?_
   refine op_pass rfl (dj := 8) rfl g3 ?_
   refine op_passU rfl (dj := 18) rfl ?_
   refine op_passU rfl (dj := 18) rfl ?_
   refine op_passU rfl (dj := 18) rfl ?_
   refine op_passU rfl (dj := 18) rfl ?_
   refine op_passU rfl (dj := 22) rfl ?_
   refine op_passU rfl (dj := 22) rfl ?_
   refine op_passU rfl (dj := 22) rfl ?_
   refine op_passU rfl (dj := 22) rfl ?_
   refine op_passU rfl (dj := 18) rfl ?_
   refine op_pass rfl (dj := 8) rfl g3 ?_
   refine oV (v_pick_t rfl g3 rfl) ?_
   exact hJ2 _ () h _ (join_imp 21 rfl rfl (mod_cons (j := 29) rfl (fun _ _ h => h) mod_nil) .nil)
  ·
   refine op_take rfl rfl (dj := 8) rfl g3 (OpV.t (v_fi rfl GCon.f1 fd54_1 rfl (z := a_c.hasLow)) ?_)
   refine op_take rfl rfl (dj := 8) rfl g3 (OpV.t (v_loadI ty4 rfl) ?_)
   refine op_take rfl rfl (dj := 8) rfl g3 (OpV.t (v_not rfl) ?_)
   refine op_take rfl rfl (dj := 8) rfl g3 (OpV.t (v_move rfl) ?_)
   refine rl_j (ι := Bool) (γ := Unit) (fun q4 g4 => [(17, isv (q4))]) (fun q4 g4 => []) .nil h 5 rfl (fun q4 g4 h => ?_) (fun J5 h hJ5 => ?_)
   ·
    refine op_take rfl rfl (dj := 8) rfl g3 (OpV.t (v_move rfl) ?_)
    refine rl_j (ι := Bool) (γ := Unit) (fun q7 g7 => [(28, isv (q7))]) (fun q7 g7 => []) .nil h 10 rfl (fun q7 g7 h => ?_) (fun J8 h hJ8 => ?_)
    ·
     refine oV (v_pick_f rfl g3 rfl) ?_
     exact hJ2 _ () h _ (join_imp 8 rfl rfl (mod_cons (j := 29) rfl (fun _ _ h => h) mod_nil) .nil)
    ·
     refine rl_condM (j := 18) h rfl (fun g9 h => ?_) (fun g9 h => ?_)
     ·
      refine op_take rfl rfl (dj := 18) rfl g9 (OpV.t (v_fi rfl GCon.f2 fd54_2 rfl (z := a_c.hasHigh)) ?_)
      refine op_take rfl rfl (dj := 18) rfl g9 (OpV.t (v_loadI ty4 rfl) ?_)
      refine op_take rfl rfl (dj := 18) rfl g9 (OpV.t (v_not rfl) ?_)
      refine op_take rfl rfl (dj := 18) rfl g9 (OpV.t (v_move rfl) ?_)
      refine rl_j (ι := Bool) (γ := Unit) (fun q10 g10 => [(27, isv (q10))]) (fun q10 g10 => []) .nil h 5 rfl (fun q10 g10 h => ?_) (fun J11 h hJ11 => ?_)
      ·
       refine op_take rfl rfl (dj := 8) rfl g3 (OpV.t (v_pick_t rfl g9 rfl) ?_)
       exact hJ8 _ () h _ (join_imp 6 rfl rfl (mod_cons (j := 28) rfl (fun _ _ h => h) mod_nil) .nil)
      ·
       refine rl_condM (j := 22) h rfl (fun g12 h => ?_) (fun g12 h => ?_)
       ·
        refine op_pass rfl (dj := 22) rfl g12 ?_
        refine op_pass rfl (dj := 22) rfl g12 ?_
        refine op_pass rfl (dj := 22) rfl g12 ?_
        refine op_pass rfl (dj := 22) rfl g12 ?_
        refine op_take rfl rfl (dj := 18) rfl g9 (OpV.t (v_pick_t rfl g12 rfl) ?_)
        exact hJ11 _ () h _ (join_imp 5 rfl rfl (mod_cons (j := 27) rfl (fun _ _ h => h) mod_nil) .nil)
       ·
        refine op_take rfl rfl (dj := 22) rfl g12 (OpV.t (v_move rfl) ?_)
        refine op_take rfl rfl (dj := 22) rfl g12 (OpV.t (v_fi rfl GCon.f5 fd54_5 rfl (z := a_c.high)) ?_)
        refine op_take rfl rfl (dj := 22) rfl g12 (OpV.t (v_loadI ty2 rfl) ?_)
        refine op_take rfl rfl (dj := 22) rfl g12 (OpV.t (v_leq rfl rfl) ?_)
        refine op_take rfl rfl (dj := 18) rfl g9 (OpV.t (v_pick_f rfl g12 rfl) ?_)
        exact hJ11 _ () h _ (join_imp 5 rfl rfl (mod_cons (j := 27) rfl (fun _ _ h => h) mod_nil) .nil)
     ·
      refine op_pass rfl (dj := 18) rfl g9 ?_
      refine op_pass rfl (dj := 18) rfl g9 ?_
      refine op_pass rfl (dj := 18) rfl g9 ?_
      refine op_pass rfl (dj := 18) rfl g9 ?_
      refine op_passU rfl (dj := 22) rfl ?_
      refine op_passU rfl (dj := 22) rfl ?_
      refine op_passU rfl (dj := 22) rfl ?_
      refine op_passU rfl (dj := 22) rfl ?_
      refine op_pass rfl (dj := 18) rfl g9 ?_
      refine op_take rfl rfl (dj := 8) rfl g3 (OpV.t (v_pick_f rfl g9 rfl) ?_)
      exact hJ8 _ () h _ (join_imp 10 rfl rfl (mod_cons (j := 28) rfl (fun _ _ h => h) mod_nil) .nil)
   ·
    refine rl_condM (j := 12) h rfl (fun g6 h => ?_) (fun g6 h => ?_)
    ·
     refine op_pass rfl (dj := 12) rfl g6 ?_
     refine op_pass rfl (dj := 12) rfl g6 ?_
     refine op_pass rfl (dj := 12) rfl g6 ?_
     refine op_pass rfl (dj := 12) rfl g6 ?_
     refine op_take rfl rfl (dj := 8) rfl g3 (OpV.t (v_pick_t rfl g6 rfl) ?_)
     exact hJ5 _ () h _ (join_imp 5 rfl rfl (mod_cons (j := 17) rfl (fun _ _ h => h) mod_nil) .nil)
    ·
     refine op_take rfl rfl (dj := 12) rfl g6 (OpV.t (v_move rfl) ?_)
     refine op_take rfl rfl (dj := 12) rfl g6 (OpV.t (v_fi rfl GCon.f4 fd54_4 rfl (z := a_c.low)) ?_)
     refine op_take rfl rfl (dj := 12) rfl g6 (OpV.t (v_loadI ty2 rfl) ?_)
     refine op_take rfl rfl (dj := 12) rfl g6 (OpV.t (v_geq rfl rfl) ?_)
     refine op_take rfl rfl (dj := 8) rfl g3 (OpV.t (v_pick_f rfl g6 rfl) ?_)
     exact hJ5 _ () h _ (join_imp 5 rfl rfl (mod_cons (j := 17) rfl (fun _ _ h => h) mod_nil) .nil)


theorem utf8_word_Lbyte_w : ∀ {a_s : (List UInt8)} {r : UInt64}, utf8_word_Lbyte a_s = some r → Ctr Tryd.prog 141 [isv (a_s)] [] (fun R H => R = oneOf [isv (r)] ∧ H = []) := by
 intro a_s r h
 unfold utf8_word_Lbyte at h
 refine spec_intro Tryd.func141 rfl (by decide +kernel) (by rfl) fun w0 S0 hT => ?_
 refine wsr ?_
 refine oV (v_assign rfl) ?_
 refine rnf ?_
 refine w_seq ?_
 refine w_cond_f rfl rfl ?_
 refine wkf ?_
 refine w_seq ?_
 refine w_regionD (.v 0 (.v 1 (.v 2 (.v 3 (.v 4 (.v 5 (.v 6 (.v 7 (.v 8 (.v 9 (.v 10 (.v 11 (.v 12 (.v 13 (.v 14 (.v 15 (.v 16 (.v 17 (.v 18 (.v 19 (.v 20 (.v 21 (.v 22 (.v 23 (.v 24 (.v 25 (.v 26 (.v 27 (.v 28 (.v 29 (.v 30 (.v 31 (.v 32 (.v 33 (.v 34 (.v 35 (.v 36 (.v 37 (.v 38 (.v 39 (.v 40 (.v 41 (.v 42 (.v 43 (.v 44 (.v 45 (.v 46 .nil))))))))))))))))))))))))))))))))))))))))))))))) moOrd (by kernel_rfl) ?_
 refine rd_v rfl (v_move rfl) ?_
 refine cal_inv h fun y1 hy1 h => ?_
 refine rd_v rfl (v_ix (l := a_s) rfl (fun _ _ h => h) rfl sl63 hy1) ?_
 refine rd_v rfl (v_loadI ty5 rfl) ?_
 refine rd_v rfl (v_u8u64 Tryd.underlying5 Tryd.underlying39 rfl) ?_
 refine rd_v rfl (v_move rfl) ?_
 refine cal_inv h fun y2 hy2 h => ?_
 refine rd_v rfl (v_ix (l := a_s) rfl (fun _ _ h => h) rfl sl63 hy2) ?_
 refine rd_v rfl (v_loadI ty5 rfl) ?_
 refine rd_v rfl (v_u8u64 Tryd.underlying5 Tryd.underlying39 rfl) ?_
 refine asr_inv h fun q3 h => ?_
 refine rd_v rfl (v_shl64 rfl rfl q3) ?_
 refine rd_v rfl (v_or64 rfl rfl) ?_
 refine rd_v rfl (v_move rfl) ?_
 refine cal_inv h fun y4 hy4 h => ?_
 refine rd_v rfl (v_ix (l := a_s) rfl (fun _ _ h => h) rfl sl63 hy4) ?_
 refine rd_v rfl (v_loadI ty5 rfl) ?_
 refine rd_v rfl (v_u8u64 Tryd.underlying5 Tryd.underlying39 rfl) ?_
 refine asr_inv h fun q5 h => ?_
 refine rd_v rfl (v_shl64 rfl rfl q5) ?_
 refine rd_v rfl (v_or64 rfl rfl) ?_
 refine rd_v rfl (v_move rfl) ?_
 refine cal_inv h fun y6 hy6 h => ?_
 refine rd_v rfl (v_ix (l := a_s) rfl (fun _ _ h => h) rfl sl63 hy6) ?_
 refine rd_v rfl (v_loadI ty5 rfl) ?_
 refine rd_v rfl (v_u8u64 Tryd.underlying5 Tryd.underlying39 rfl) ?_
 refine asr_inv h fun q7 h => ?_
 refine rd_v rfl (v_shl64 rfl rfl q7) ?_
 refine rd_v rfl (v_or64 rfl rfl) ?_
 refine rd_v rfl (v_move rfl) ?_
 refine cal_inv h fun y8 hy8 h => ?_
 refine rd_v rfl (v_ix (l := a_s) rfl (fun _ _ h => h) rfl sl63 hy8) ?_
 refine rd_v rfl (v_loadI ty5 rfl) ?_
 refine rd_v rfl (v_u8u64 Tryd.underlying5 Tryd.underlying39 rfl) ?_
 refine asr_inv h fun q9 h => ?_
 refine rd_v rfl (v_shl64 rfl rfl q9) ?_
 refine rd_v rfl (v_or64 rfl rfl) ?_
 refine rd_v rfl (v_move rfl) ?_
 refine cal_inv h fun y10 hy10 h => ?_
 refine rd_v rfl (v_ix (l := a_s) rfl (fun _ _ h => h) rfl sl63 hy10) ?_
 refine rd_v rfl (v_loadI ty5 rfl) ?_
 refine rd_v rfl (v_u8u64 Tryd.underlying5 Tryd.underlying39 rfl) ?_
 refine asr_inv h fun q11 h => ?_
 refine rd_v rfl (v_shl64 rfl rfl q11) ?_
 refine rd_v rfl (v_or64 rfl rfl) ?_
 refine rd_v rfl (v_move rfl) ?_
 refine cal_inv h fun y12 hy12 h => ?_
 refine rd_v rfl (v_ix (l := a_s) rfl (fun _ _ h => h) rfl sl63 hy12) ?_
 refine rd_v rfl (v_loadI ty5 rfl) ?_
 refine rd_v rfl (v_u8u64 Tryd.underlying5 Tryd.underlying39 rfl) ?_
 refine asr_inv h fun q13 h => ?_
 refine rd_v rfl (v_shl64 rfl rfl q13) ?_
 refine rd_v rfl (v_or64 rfl rfl) ?_
 refine rd_v rfl (v_move rfl) ?_
 refine cal_inv h fun y14 hy14 h => ?_
 refine rd_v rfl (v_ix (l := a_s) rfl (fun _ _ h => h) rfl sl63 hy14) ?_
 refine rd_v rfl (v_loadI ty5 rfl) ?_
 refine rd_v rfl (v_u8u64 Tryd.underlying5 Tryd.underlying39 rfl) ?_
 refine asr_inv h fun q15 h => ?_
 refine rd_v rfl (v_shl64 rfl rfl q15) ?_
 refine rd_v rfl (v_or64 rfl rfl) ?_
 refine rd_v rfl (v_assign rfl) ?_
 refine rd_nil ?_
 refine fin_nxt ?_
 refine w_ret ?_
 refine ret_post (.tmp rfl .nil) .nil ?_
 obtain rfl := Option.some.inj h
 exact ⟨rfl, rfl⟩


theorem utf8_Valid_w : ∀ {a_p : (List UInt8)} {r : Bool}, utf8_Valid a_p = some r → Ctr Tryd.prog 135 [isv (a_p)] [] (fun R H => R = oneOf [isv (r)] ∧ H = []) := by
 intro a_p r h
 unfold utf8_Valid at h
 refine spec_intro Tryd.func135 rfl (by decide +kernel) (by rfl) fun w0 S0 hT => ?_
 refine wsr ?_
 refine oV (v_assign rfl) ?_
 refine rnf ?_
 refine wsr ?_
 refine oV (v_move rfl) ?_
 refine oV (v_move rfl) ?_
 refine oV (v_ln (l := a_p) rfl (fun _ _ h => h) sl63) ?_
 refine oV (v_move rfl) ?_
 refine oV (v_ln (l := a_p) rfl (fun _ _ h => h) sl63) ?_
 refine asd_inv h fun q1 h => ?_
 refine oV (v_sl3 (l := a_p) rfl (fun _ _ h => h) sl63 rfl rfl q1.1 q1.2) ?_
 refine oV (v_assign rfl) ?_
 refine rnf ?_
 refine w_seq ?_
 refine w_block ?_
 refine w_lp (ι := (List UInt8)) (γ := Unit) (fun q2 g2 => [(0, isv (q2))]) (fun q2 g2 => []) h () (mod_cons (j := 0) rfl (fun _ _ h => h) mod_nil) .nil (fun L3 q2 g2 Q194 h hL3 eL3 rL3 => ?_)
 refine w_seq ?_
 refine wsr ?_
 refine oV (v_move rfl) ?_
 refine oV (v_ln (l := q2) rfl (fun _ _ h => h) sl63) ?_
 refine oV (v_gtr rfl rfl) ?_
 refine rnf ?_
 refine w_condM h rfl (fun _ h => ?_) (fun _ h => ?_)
 ·
  refine wkf ?_
  refine w_block ?_
  refine wsr ?_
  refine oV (v_move rfl) ?_
  refine cal_inv h fun y99 hy99 h => ?_
  refine oV (v_ix (l := q2) rfl (fun _ _ h => h) rfl sl63 hy99) ?_
  refine oV (v_loadI ty5 rfl) ?_
  refine oV (v_assign rfl) ?_
  refine rnf ?_
  refine w_seq ?_
  refine wsr ?_
  refine oV (v_move rfl) ?_
  refine oV (v_lss8 rfl rfl) ?_
  refine rnf ?_
  refine w_condM h rfl (fun _ h => ?_) (fun _ h => ?_)
  ·
   refine wsr ?_
   refine oV (v_move rfl) ?_
   refine asd_inv h fun q100 h => ?_
   refine oV (v_sl (l := q2) rfl (fun _ _ h => h) sl63 (.inr ⟨_, rfl, rfl⟩) (.inl ⟨rfl, rfl⟩) q100.1 q100.2.1 q100.2.2) ?_
   refine oV (v_assign rfl) ?_
   refine rnf ?_
   refine w_seq ?_
   refine wsr ?_
   refine oV (v_move rfl) ?_
   refine oV (v_ln (l := ((q2.take ((q2.length : Int)).toNat).drop ((1 : Int)).toNat)) rfl (fun _ _ h => h) sl63) ?_
   refine oV (v_gtr rfl rfl) ?_
   refine oV (v_move rfl) ?_
   refine rl_j (ι := Bool) (γ := Unit) (fun q101 g101 => [(31, isv (q101))]) (fun q101 g101 => []) .nil h 5 rfl (fun q101 g101 h => ?_) (fun J102 h hJ102 => ?_)
   ·
    refine rnf ?_
    refine w_J (ι := (List UInt8)) (γ := Unit) (fun q105 g105 => [(0, isv (q105))]) (fun q105 g105 => []) .nil h (fun q105 g105 h => ?_) (fun J106 h hJ106 => ?_)
    ·
     refine w_exit ?_
     refine exi_nxt ?_
     refine exi_block ?_
     exact hL3 _ () h _ (join_imp 19 rfl rfl (mod_cons (j := 0) rfl (fun _ _ h => h) mod_nil) .nil)
    ·
     refine w_condM h rfl (fun _ h => ?_) (fun _ h => ?_)
     ·
      refine wsr ?_
      refine oV (v_move rfl) ?_
      refine asd_inv h fun q107 h => ?_
      refine oV (v_sl (l := ((q2.take ((q2.length : Int)).toNat).drop ((1 : Int)).toNat)) rfl (fun _ _ h => h) sl63 (.inr ⟨_, rfl, rfl⟩) (.inl ⟨rfl, rfl⟩) q107.1 q107.2.1 q107.2.2) ?_
      refine oV (v_assign rfl) ?_
      refine rnf ?_
      refine w_seq ?_
      refine w_regionD (.v 0 (.v 1 (.v 2 (.v 3 (.v 4 (.v 6 (.v 7 (.t 5 (.t 8 (.v 9 (.v 10 (.v 11 (.v 12 .nil))))))))))))) moOrd (by kernel_rfl) ?_
      refine rd_v rfl (v_move rfl) ?_
      refine rd_v rfl (v_ln (l := ((((q2.take ((q2.length : Int)).toNat).drop ((1 : Int)).toNat).take ((((q2.take ((q2.length : Int)).toNat).drop ((1 : Int)).toNat).length : Int)).toNat).drop ((8 : Int)).toNat)) rfl (fun _ _ h => h) sl63) ?_
      refine rd_v rfl (v_gtr rfl rfl) ?_
      refine rd_v rfl (v_move rfl) ?_
      refine rd_j (ι := Bool) (γ := Unit) (fun q108 g108 => [(46, isv (q108))]) (fun q108 g108 => []) .nil h 9 rfl (fun q108 g108 h => ?_) (fun J109 h hJ109 => ?_)
      ·
       refine rd_nil ?_
       refine fin_nxt ?_
       refine w_condM h rfl (fun _ h => ?_) (fun _ h => ?_)
       ·
        refine wsr ?_
        refine oV (v_move rfl) ?_
        refine asd_inv h fun q114 h => ?_
        refine oV (v_sl (l := ((((q2.take ((q2.length : Int)).toNat).drop ((1 : Int)).toNat).take ((((q2.take ((q2.length : Int)).toNat).drop ((1 : Int)).toNat).length : Int)).toNat).drop ((8 : Int)).toNat)) rfl (fun _ _ h => h) sl63 (.inr ⟨_, rfl, rfl⟩) (.inl ⟨rfl, rfl⟩) q114.1 q114.2.1 q114.2.2) ?_
        refine oV (v_assign rfl) ?_
        refine rnf ?_
        refine w_block ?_
        refine w_lp (ι := (List UInt8)) (γ := Unit) (fun q115 g115 => [(0, isv (q115))]) (fun q115 g115 => []) h () (mod_cons (j := 0) rfl (fun _ _ h => h) mod_nil) .nil (fun L116 q115 g115 Q139 h hL116 eL116 rL116 => ?_)
        refine w_seq ?_
        refine w_seq ?_
        refine w_regionD (.v 0 (.v 1 (.v 2 (.v 3 (.v 4 (.v 6 (.v 7 (.v 10 (.v 11 (.v 13 (.v 14 (.t 5 (.t 8 (.v 9 (.t 12 (.t 15 (.v 16 (.v 17 (.v 18 (.v 19 (.v 20 .nil))))))))))))))))))))) moOrd (by kernel_rfl) ?_
        refine rd_v rfl (v_move rfl) ?_
        refine rd_v rfl (v_ln (l := q115) rfl (fun _ _ h => h) sl63) ?_
        refine rd_v rfl (v_gtr rfl rfl) ?_
        refine rd_v rfl (v_move rfl) ?_
        refine rd_j (ι := Bool) (γ := Unit) (fun q128 g128 => [(69, isv (q128))]) (fun q128 g128 => []) .nil h 17 rfl (fun q128 g128 h => ?_) (fun J129 h hJ129 => ?_)
        ·
         refine rd_nil ?_
         refine fin_nxt ?_
         refine w_condM h rfl (fun _ h => ?_) (fun _ h => ?_)
         ·
          refine wkf ?_
          refine w_block ?_
          refine w_region ?_
          refine oV (v_move rfl) ?_
          refine asd_inv h fun q138 h => ?_
          refine oV (v_sl (l := q115) rfl (fun _ _ h => h) sl63 (.inr ⟨_, rfl, rfl⟩) (.inl ⟨rfl, rfl⟩) q138.1 q138.2.1 q138.2.2) ?_
          refine oV (v_assign rfl) ?_
          refine rl_nil ?_
          refine fin_block ?_
          exact hL116 _ () h _ (join_imp 9 rfl rfl (mod_cons (j := 0) rfl (fun _ _ h => h) mod_nil) .nil)
         ·
          refine w_exit ?_
          refine exi_nxt ?_
          refine eL116 _ _ ?_
          refine exi_block ?_
          exact hJ106 _ () h _ (join_imp 17 rfl rfl (mod_cons (j := 0) rfl (fun _ _ h => h) mod_nil) .nil)
        ·
         refine rd_condM (j := 52) h rfl (fun g130 h => ?_) (fun g130 h => ?_)
         ·
          refine rd_vt rfl rfl (dj := 52) rfl g130 (v_move rfl) ?_
          refine rd_vt rfl rfl (dj := 52) rfl g130 (v_move rfl) ?_
          refine asd_inv h fun q131 h => ?_
          refine rd_vt rfl rfl (dj := 52) rfl g130 (v_sl (l := q115) rfl (fun _ _ h => h) sl63 (.inr ⟨_, rfl, rfl⟩) (.inl ⟨rfl, rfl⟩) q131.1 q131.2.1 q131.2.2) ?_
          refine rd_vt rfl rfl (dj := 52) rfl g130 (v_move rfl) ?_
          refine asd_inv h fun q132 h => ?_
          refine rd_vt rfl rfl (dj := 52) rfl g130 (v_sl (l := q115) rfl (fun _ _ h => h) sl63 (.inr ⟨_, rfl, rfl⟩) (.inl ⟨rfl, rfl⟩) q132.1 q132.2.1 q132.2.2) ?_
          refine rd_vt rfl rfl (dj := 52) rfl g130 (v_move rfl) ?_
          refine asd_inv h fun q133 h => ?_
          refine rd_vt rfl rfl (dj := 52) rfl g130 (v_sl (l := q115) rfl (fun _ _ h => h) sl63 (.inr ⟨_, rfl, rfl⟩) (.inl ⟨rfl, rfl⟩) q133.1 q133.2.1 q133.2.2) ?_
          refine cal_inv h fun y134 hy134 h => ?_
          refine rd_tt rfl rfl rfl (dj := 52) rfl g130 (t_call (utf8_word_Lbyte_w hy134) hT (.same rfl .nil) .nil (fun R H' hR => ?_))
          obtain ⟨rfl, rfl⟩ := hR
          refine cal_inv h fun y135 hy135 h => ?_
          refine rd_tt rfl rfl rfl (dj := 52) rfl g130 (t_call (utf8_word_Lbyte_w hy135) hT (.same rfl .nil) .nil (fun R H' hR => ?_))
          obtain ⟨rfl, rfl⟩ := hR
          refine rd_vt rfl rfl (dj := 52) rfl g130 (v_or64 rfl rfl) ?_
          refine cal_inv h fun y136 hy136 h => ?_
          refine rd_tt rfl rfl rfl (dj := 52) rfl g130 (t_call (utf8_word_Lbyte_w hy136) hT (.same rfl .nil) .nil (fun R H' hR => ?_))
          obtain ⟨rfl, rfl⟩ := hR
          refine cal_inv h fun y137 hy137 h => ?_
          refine rd_tt rfl rfl rfl (dj := 52) rfl g130 (t_call (utf8_word_Lbyte_w hy137) hT (.same rfl .nil) .nil (fun R H' hR => ?_))
          obtain ⟨rfl, rfl⟩ := hR
          refine rd_vt rfl rfl (dj := 52) rfl g130 (v_or64 rfl rfl) ?_
          refine rd_vt rfl rfl (dj := 52) rfl g130 (v_or64 rfl rfl) ?_
          refine rd_vt rfl rfl (dj := 52) rfl g130 (v_and64 rfl rfl) ?_
          refine rd_vt rfl rfl (dj := 52) rfl g130 (v_eql64 rfl rfl) ?_
          refine rd_v rfl (v_pick_t rfl g130 rfl) ?_
          exact hJ129 _ () h _ (join_imp 17 rfl rfl (mod_cons (j := 69) rfl (fun _ _ h => h) mod_nil) .nil)
         ·
          refine rd_passV rfl rfl (dj := 52) rfl g130 ?_
          refine rd_passV rfl rfl (dj := 52) rfl g130 ?_
          refine rd_passV rfl rfl (dj := 52) rfl g130 ?_
          refine rd_passV rfl rfl (dj := 52) rfl g130 ?_
          refine rd_passV rfl rfl (dj := 52) rfl g130 ?_
          refine rd_passV rfl rfl (dj := 52) rfl g130 ?_
          refine rd_passV rfl rfl (dj := 52) rfl g130 ?_
          refine rd_passT rfl rfl (dj := 52) rfl g130 ?_
          refine rd_passT rfl rfl (dj := 52) rfl g130 ?_
          refine rd_passV rfl rfl (dj := 52) rfl g130 ?_
          refine rd_passT rfl rfl (dj := 52) rfl g130 ?_
          refine rd_passT rfl rfl (dj := 52) rfl g130 ?_
          refine rd_passV rfl rfl (dj := 52) rfl g130 ?_
          refine rd_passV rfl rfl (dj := 52) rfl g130 ?_
          refine rd_passV rfl rfl (dj := 52) rfl g130 ?_
          refine rd_passV rfl rfl (dj := 52) rfl g130 ?_
          refine rd_v rfl (v_pick_f rfl g130 rfl) ?_
          exact hJ129 _ () h _ (join_imp 17 rfl rfl (mod_cons (j := 69) rfl (fun _ _ h => h) mod_nil) .nil)
       ·
        refine w_skip ?_
        exact hJ106 _ () h _ (join_imp 8 rfl rfl (mod_cons (j := 0) rfl (fun _ _ h => h) mod_nil) .nil)
      ·
       refine rd_condM (j := 37) h rfl (fun g110 h => ?_) (fun g110 h => ?_)
       ·
        refine rd_vt rfl rfl (dj := 37) rfl g110 (v_move rfl) ?_
        refine rd_vt rfl rfl (dj := 37) rfl g110 (v_move rfl) ?_
        refine asd_inv h fun q111 h => ?_
        refine rd_vt rfl rfl (dj := 37) rfl g110 (v_sl (l := ((((q2.take ((q2.length : Int)).toNat).drop ((1 : Int)).toNat).take ((((q2.take ((q2.length : Int)).toNat).drop ((1 : Int)).toNat).length : Int)).toNat).drop ((8 : Int)).toNat)) rfl (fun _ _ h => h) sl63 (.inr ⟨_, rfl, rfl⟩) (.inl ⟨rfl, rfl⟩) q111.1 q111.2.1 q111.2.2) ?_
        refine cal_inv h fun y112 hy112 h => ?_
        refine rd_tt rfl rfl rfl (dj := 37) rfl g110 (t_call (utf8_word_Lbyte_w hy112) hT (.same rfl .nil) .nil (fun R H' hR => ?_))
        obtain ⟨rfl, rfl⟩ := hR
        refine cal_inv h fun y113 hy113 h => ?_
        refine rd_tt rfl rfl rfl (dj := 37) rfl g110 (t_call (utf8_word_Lbyte_w hy113) hT (.same rfl .nil) .nil (fun R H' hR => ?_))
        obtain ⟨rfl, rfl⟩ := hR
        refine rd_vt rfl rfl (dj := 37) rfl g110 (v_or64 rfl rfl) ?_
        refine rd_vt rfl rfl (dj := 37) rfl g110 (v_and64 rfl rfl) ?_
        refine rd_vt rfl rfl (dj := 37) rfl g110 (v_eql64 rfl rfl) ?_
        refine rd_v rfl (v_pick_t rfl g110 rfl) ?_
        exact hJ109 _ () h _ (join_imp 9 rfl rfl (mod_cons (j := 46) rfl (fun _ _ h => h) mod_nil) .nil)
       ·
        refine rd_passV rfl rfl (dj := 37) rfl g110 ?_
        refine rd_passV rfl rfl (dj := 37) rfl g110 ?_
        refine rd_passV rfl rfl (dj := 37) rfl g110 ?_
        refine rd_passT rfl rfl (dj := 37) rfl g110 ?_
        refine rd_passT rfl rfl (dj := 37) rfl g110 ?_
        refine rd_passV rfl rfl (dj := 37) rfl g110 ?_
        refine rd_passV rfl rfl (dj := 37) rfl g110 ?_
        refine rd_passV rfl rfl (dj := 37) rfl g110 ?_
        refine rd_v rfl (v_pick_f rfl g110 rfl) ?_
        exact hJ109 _ () h _ (join_imp 9 rfl rfl (mod_cons (j := 46) rfl (fun _ _ h => h) mod_nil) .nil)
     ·
      refine w_skip ?_
      exact hJ106 _ () h _ (join_imp 0 rfl rfl (mod_cons (j := 0) rfl (fun _ _ h => h) mod_nil) .nil)
   ·
    refine rl_condM (j := 26) h rfl (fun g103 h => ?_) (fun g103 h => ?_)
    ·
     refine op_take rfl rfl (dj := 26) rfl g103 (OpV.t (v_move rfl) ?_)
     refine cal_inv h fun y104 hy104 h => ?_
     refine op_take rfl rfl (dj := 26) rfl g103 (t_call (utf8_word_Lbyte_w hy104) hT (.same rfl .nil) .nil (fun R H' hR => ?_))
     obtain ⟨rfl, rfl⟩ := hR
     refine op_take rfl rfl (dj := 26) rfl g103 (OpV.t (v_and64 rfl rfl) ?_)
     refine op_take rfl rfl (dj := 26) rfl g103 (OpV.t (v_eql64 rfl rfl) ?_)
     refine oV (v_pick_t rfl g103 rfl) ?_
     exact hJ102 _ () h _ (join_imp 5 rfl rfl (mod_cons (j := 31) rfl (fun _ _ h => h) mod_nil) .nil)
    ·
     refine op_pass rfl (dj := 26) rfl g103 ?_
     refine op_pass rfl (dj := 26) rfl g103 ?_
     refine op_pass rfl (dj := 26) rfl g103 ?_
     refine op_pass rfl (dj := 26) rfl g103 ?_
     refine oV (v_pick_f rfl g103 rfl) ?_
     exact hJ102 _ () h _ (join_imp 5 rfl rfl (mod_cons (j := 31) rfl (fun _ _ h => h) mod_nil) .nil)
  ·
   refine wkf ?_
   refine wsr ?_
   refine oV (v_move rfl) ?_
   refine oV (v_t1 gl_first ar181 rfl) ?_
   refine oV (v_t1l hT ty5 rfl _ gl_acceptRanges) ?_
   refine oV (v_assign rfl) ?_
   refine rnf ?_
   refine wsr ?_
   refine oV (v_move rfl) ?_
   refine oV (v_and8 rfl rfl) ?_
   refine oV (v_u8i Tryd.underlying5 Tryd.underlying3 rfl) ?_
   refine oV (v_assign rfl) ?_
   refine rnf ?_
   refine wsr ?_
   refine oV (v_move rfl) ?_
   refine asr_inv h fun q140 h => ?_
   refine oV (v_shr8 rfl rfl q140) ?_
   refine asr_inv h fun q141 h => ?_
   refine oV (v_t2 gl_acceptRanges ar184 rfl q141) ?_
   refine oV (v_t2l hT ty183 rfl q141 _ gl_first) ?_
   refine oT (t_alloc _ ze183 fun b142 => ?_)
   refine oT (t_storeC (y' := ((tab2 (shr8 (tab1 y99) (4 : UInt64).toNat)) : GAcc)) ty183 rfl rfl (fun _ _ h => h) .here rfl ?_)
   refine rl_upd (upd_imm 6 .here rfl) ?_
   refine rnf ?_
   refine wsr ?_
   refine oV (v_move rfl) ?_
   refine rnf ?_
   refine w_block ?_
   refine wsr ?_
   refine oV (v_eql rfl rfl) ?_
   refine oV (v_assign rfl) ?_
   refine rnf ?_
   refine w_condM h rfl (fun _ h => ?_) (fun _ h => ?_)
   ·
    refine w_seq ?_
    refine w_seq ?_
    refine w_regionD (.v 0 (.v 1 (.v 2 (.v 3 (.v 4 (.v 5 (.v 6 (.v 7 (.v 8 (.v 9 (.v 10 (.v 11 (.v 12 (.v 13 (.v 14 (.v 15 (.v 16 (.v 17 (.v 18 .nil))))))))))))))))))) moOrd (by kernel_rfl) ?_
    refine rd_v rfl (v_move rfl) ?_
    refine rd_v rfl (v_ln (l := q2) rfl (fun _ _ h => h) sl63) ?_
    refine rd_v rfl (v_lss rfl rfl) ?_
    refine rd_v rfl (v_move rfl) ?_
    refine rd_j (ι := Bool) (γ := Unit) (fun q143 g143 => [(95, isv (q143))]) (fun q143 g143 => []) .nil h 7 rfl (fun q143 g143 h => ?_) (fun J144 h hJ144 => ?_)
    ·
     refine rd_v rfl (v_move rfl) ?_
     refine rd_j (ι := Bool) (γ := Unit) (fun q147 g147 => [(103, isv (q147))]) (fun q147 g147 => []) .nil h 7 rfl (fun q147 g147 h => ?_) (fun J148 h hJ148 => ?_)
     ·
      refine rd_nil ?_
      refine fin_nxt ?_
      refine w_condM h rfl (fun _ h => ?_) (fun _ h => ?_)
      ·
       refine wsr ?_
       refine oV (v_assign rfl) ?_
       refine rnf ?_
       refine w_ret ?_
       refine ret_nxt ?_
       refine ret_block ?_
       refine ret_block ?_
       refine rL3 _ ?_
       refine ret_block ?_
       refine ret_nxt ?_
       refine ret_post (.tmp rfl .nil) .nil ?_
       obtain rfl := Option.some.inj h
       exact ⟨rfl, rfl⟩
      ·
       refine wkf ?_
       refine w_region ?_
       refine oV (v_move rfl) ?_
       refine asd_inv h fun q151 h => ?_
       refine oV (v_sl (l := q2) rfl (fun _ _ h => h) sl63 (.inr ⟨_, rfl, rfl⟩) (.inl ⟨rfl, rfl⟩) q151.1 q151.2.1 q151.2.2) ?_
       refine oV (v_assign rfl) ?_
       refine rl_nil ?_
       refine fin_block ?_
       refine fin_block ?_
       exact hL3 _ () h _ (join_imp 37 rfl rfl (mod_cons (j := 0) rfl (fun _ _ h => h) mod_nil) .nil)
     ·
      refine rd_condM (j := 96) h rfl (fun g149 h => ?_) (fun g149 h => ?_)
      ·
       refine rd_passV rfl rfl (dj := 96) rfl g149 ?_
       refine rd_passV rfl rfl (dj := 96) rfl g149 ?_
       refine rd_passV rfl rfl (dj := 96) rfl g149 ?_
       refine rd_passV rfl rfl (dj := 96) rfl g149 ?_
       refine rd_passV rfl rfl (dj := 96) rfl g149 ?_
       refine rd_passV rfl rfl (dj := 96) rfl g149 ?_
       refine rd_v rfl (v_pick_t rfl g149 rfl) ?_
       exact hJ148 _ () h _ (join_imp 7 rfl rfl (mod_cons (j := 103) rfl (fun _ _ h => h) mod_nil) .nil)
      ·
       refine rd_vt rfl rfl (dj := 96) rfl g149 (v_fi rfl GAcc.f1 fd183_1 rfl (z := (tab2 (shr8 (tab1 y99) (4 : UInt64).toNat)).hi)) ?_
       refine rd_vt rfl rfl (dj := 96) rfl g149 (v_loadI ty5 rfl) ?_
       refine rd_vt rfl rfl (dj := 96) rfl g149 (v_move rfl) ?_
       refine cal_inv h fun y150 hy150 h => ?_
       refine rd_vt rfl rfl (dj := 96) rfl g149 (v_ix (l := q2) rfl (fun _ _ h => h) rfl sl63 hy150) ?_
       refine rd_vt rfl rfl (dj := 96) rfl g149 (v_loadI ty5 rfl) ?_
       refine rd_vt rfl rfl (dj := 96) rfl g149 (v_lss8 rfl rfl) ?_
       refine rd_v rfl (v_pick_f rfl g149 rfl) ?_
       exact hJ148 _ () h _ (join_imp 7 rfl rfl (mod_cons (j := 103) rfl (fun _ _ h => h) mod_nil) .nil)
    ·
     refine rd_condM (j := 88) h rfl (fun g145 h => ?_) (fun g145 h => ?_)
     ·
      refine rd_passV rfl rfl (dj := 88) rfl g145 ?_
      refine rd_passV rfl rfl (dj := 88) rfl g145 ?_
      refine rd_passV rfl rfl (dj := 88) rfl g145 ?_
      refine rd_passV rfl rfl (dj := 88) rfl g145 ?_
      refine rd_passV rfl rfl (dj := 88) rfl g145 ?_
      refine rd_passV rfl rfl (dj := 88) rfl g145 ?_
      refine rd_v rfl (v_pick_t rfl g145 rfl) ?_
      exact hJ144 _ () h _ (join_imp 7 rfl rfl (mod_cons (j := 95) rfl (fun _ _ h => h) mod_nil) .nil)
     ·
      refine rd_vt rfl rfl (dj := 88) rfl g145 (v_move rfl) ?_
      refine cal_inv h fun y146 hy146 h => ?_
      refine rd_vt rfl rfl (dj := 88) rfl g145 (v_ix (l := q2) rfl (fun _ _ h => h) rfl sl63 hy146) ?_
      refine rd_vt rfl rfl (dj := 88) rfl g145 (v_loadI ty5 rfl) ?_
      refine rd_vt rfl rfl (dj := 88) rfl g145 (v_fi rfl GAcc.f0 fd183_0 rfl (z := (tab2 (shr8 (tab1 y99) (4 : UInt64).toNat)).lo)) ?_
      refine rd_vt rfl rfl (dj := 88) rfl g145 (v_loadI ty5 rfl) ?_
      refine rd_vt rfl rfl (dj := 88) rfl g145 (v_lss8 rfl rfl) ?_
      refine rd_v rfl (v_pick_f rfl g145 rfl) ?_
      exact hJ144 _ () h _ (join_imp 7 rfl rfl (mod_cons (j := 95) rfl (fun _ _ h => h) mod_nil) .nil)
   ·
    refine wsr ?_
    refine oV (v_eql rfl rfl) ?_
    refine oV (v_assign rfl) ?_
    refine rnf ?_
    refine w_condM h rfl (fun _ h => ?_) (fun _ h => ?_)
    ·
     refine w_seq ?_
     refine w_seq ?_
     refine w_regionD (.v 0 (.v 1 (.v 2 (.v 3 (.v 4 (.v 5 (.v 6 (.v 7 (.v 8 (.v 9 (.v 10 (.v 11 (.v 12 (.v 13 (.v 14 (.v 15 (.v 16 (.v 17 (.v 18 (.v 19 (.v 20 (.v 21 (.v 22 (.v 23 (.v 24 (.v 25 (.v 26 (.v 27 (.v 28 (.v 29 (.v 30 .nil))))))))))))))))))))))))))))))) moOrd (by kernel_rfl) ?_
     refine rd_v rfl (v_move rfl) ?_
     refine rd_v rfl (v_ln (l := q2) rfl (fun _ _ h => h) sl63) ?_
     refine rd_v rfl (v_lss rfl rfl) ?_
     refine rd_v rfl (v_move rfl) ?_
     refine rd_j (ι := Bool) (γ := Unit) (fun q152 g152 => [(118, isv (q152))]) (fun q152 g152 => []) .nil h 7 rfl (fun q152 g152 h => ?_) (fun J153 h hJ153 => ?_)
     ·
      refine rd_v rfl (v_move rfl) ?_
      refine rd_j (ι := Bool) (γ := Unit) (fun q156 g156 => [(126, isv (q156))]) (fun q156 g156 => []) .nil h 7 rfl (fun q156 g156 h => ?_) (fun J157 h hJ157 => ?_)
      ·
       refine rd_v rfl (v_move rfl) ?_
       refine rd_j (ι := Bool) (γ := Unit) (fun q160 g160 => [(132, isv (q160))]) (fun q160 g160 => []) .nil h 5 rfl (fun q160 g160 h => ?_) (fun J161 h hJ161 => ?_)
       ·
        refine rd_v rfl (v_move rfl) ?_
        refine rd_j (ι := Bool) (γ := Unit) (fun q164 g164 => [(138, isv (q164))]) (fun q164 g164 => []) .nil h 5 rfl (fun q164 g164 h => ?_) (fun J165 h hJ165 => ?_)
        ·
         refine rd_nil ?_
         refine fin_nxt ?_
         refine w_condM h rfl (fun _ h => ?_) (fun _ h => ?_)
         ·
          refine wsr ?_
          refine oV (v_assign rfl) ?_
          refine rnf ?_
          refine w_ret ?_
          refine ret_nxt ?_
          refine ret_block ?_
          refine ret_block ?_
          refine rL3 _ ?_
          refine ret_block ?_
          refine ret_nxt ?_
          refine ret_post (.tmp rfl .nil) .nil ?_
          obtain rfl := Option.some.inj h
          exact ⟨rfl, rfl⟩
         ·
          refine wkf ?_
          refine w_region ?_
          refine oV (v_move rfl) ?_
          refine asd_inv h fun q168 h => ?_
          refine oV (v_sl (l := q2) rfl (fun _ _ h => h) sl63 (.inr ⟨_, rfl, rfl⟩) (.inl ⟨rfl, rfl⟩) q168.1 q168.2.1 q168.2.2) ?_
          refine oV (v_assign rfl) ?_
          refine rl_nil ?_
          refine fin_block ?_
          refine fin_block ?_
          exact hL3 _ () h _ (join_imp 43 rfl rfl (mod_cons (j := 0) rfl (fun _ _ h => h) mod_nil) .nil)
        ·
         refine rd_condM (j := 133) h rfl (fun g166 h => ?_) (fun g166 h => ?_)
         ·
          refine rd_passV rfl rfl (dj := 133) rfl g166 ?_
          refine rd_passV rfl rfl (dj := 133) rfl g166 ?_
          refine rd_passV rfl rfl (dj := 133) rfl g166 ?_
          refine rd_passV rfl rfl (dj := 133) rfl g166 ?_
          refine rd_v rfl (v_pick_t rfl g166 rfl) ?_
          exact hJ165 _ () h _ (join_imp 5 rfl rfl (mod_cons (j := 138) rfl (fun _ _ h => h) mod_nil) .nil)
         ·
          refine rd_vt rfl rfl (dj := 133) rfl g166 (v_move rfl) ?_
          refine cal_inv h fun y167 hy167 h => ?_
          refine rd_vt rfl rfl (dj := 133) rfl g166 (v_ix (l := q2) rfl (fun _ _ h => h) rfl sl63 hy167) ?_
          refine rd_vt rfl rfl (dj := 133) rfl g166 (v_loadI ty5 rfl) ?_
          refine rd_vt rfl rfl (dj := 133) rfl g166 (v_lss8 rfl rfl) ?_
          refine rd_v rfl (v_pick_f rfl g166 rfl) ?_
          exact hJ165 _ () h _ (join_imp 5 rfl rfl (mod_cons (j := 138) rfl (fun _ _ h => h) mod_nil) .nil)
       ·
        refine rd_condM (j := 127) h rfl (fun g162 h => ?_) (fun g162 h => ?_)
        ·
         refine rd_passV rfl rfl (dj := 127) rfl g162 ?_
         refine rd_passV rfl rfl (dj := 127) rfl g162 ?_
         refine rd_passV rfl rfl (dj := 127) rfl g162 ?_
         refine rd_passV rfl rfl (dj := 127) rfl g162 ?_
         refine rd_v rfl (v_pick_t rfl g162 rfl) ?_
         exact hJ161 _ () h _ (join_imp 5 rfl rfl (mod_cons (j := 132) rfl (fun _ _ h => h) mod_nil) .nil)
        ·
         refine rd_vt rfl rfl (dj := 127) rfl g162 (v_move rfl) ?_
         refine cal_inv h fun y163 hy163 h => ?_
         refine rd_vt rfl rfl (dj := 127) rfl g162 (v_ix (l := q2) rfl (fun _ _ h => h) rfl sl63 hy163) ?_
         refine rd_vt rfl rfl (dj := 127) rfl g162 (v_loadI ty5 rfl) ?_
         refine rd_vt rfl rfl (dj := 127) rfl g162 (v_lss8 rfl rfl) ?_
         refine rd_v rfl (v_pick_f rfl g162 rfl) ?_
         exact hJ161 _ () h _ (join_imp 5 rfl rfl (mod_cons (j := 132) rfl (fun _ _ h => h) mod_nil) .nil)
      ·
       refine rd_condM (j := 119) h rfl (fun g158 h => ?_) (fun g158 h => ?_)
       ·
        refine rd_passV rfl rfl (dj := 119) rfl g158 ?_
        refine rd_passV rfl rfl (dj := 119) rfl g158 ?_
        refine rd_passV rfl rfl (dj := 119) rfl g158 ?_
        refine rd_passV rfl rfl (dj := 119) rfl g158 ?_
        refine rd_passV rfl rfl (dj := 119) rfl g158 ?_
        refine rd_passV rfl rfl (dj := 119) rfl g158 ?_
        refine rd_v rfl (v_pick_t rfl g158 rfl) ?_
        exact hJ157 _ () h _ (join_imp 7 rfl rfl (mod_cons (j := 126) rfl (fun _ _ h => h) mod_nil) .nil)
       ·
        refine rd_vt rfl rfl (dj := 119) rfl g158 (v_fi rfl GAcc.f1 fd183_1 rfl (z := (tab2 (shr8 (tab1 y99) (4 : UInt64).toNat)).hi)) ?_
        refine rd_vt rfl rfl (dj := 119) rfl g158 (v_loadI ty5 rfl) ?_
        refine rd_vt rfl rfl (dj := 119) rfl g158 (v_move rfl) ?_
        refine cal_inv h fun y159 hy159 h => ?_
        refine rd_vt rfl rfl (dj := 119) rfl g158 (v_ix (l := q2) rfl (fun _ _ h => h) rfl sl63 hy159) ?_
        refine rd_vt rfl rfl (dj := 119) rfl g158 (v_loadI ty5 rfl) ?_
        refine rd_vt rfl rfl (dj := 119) rfl g158 (v_lss8 rfl rfl) ?_
        refine rd_v rfl (v_pick_f rfl g158 rfl) ?_
        exact hJ157 _ () h _ (join_imp 7 rfl rfl (mod_cons (j := 126) rfl (fun _ _ h => h) mod_nil) .nil)
     ·
      refine rd_condM (j := 111) h rfl (fun g154 h => ?_) (fun g154 h => ?_)
      ·
       refine rd_passV rfl rfl (dj := 111) rfl g154 ?_
       refine rd_passV rfl rfl (dj := 111) rfl g154 ?_
       refine rd_passV rfl rfl (dj := 111) rfl g154 ?_
       refine rd_passV rfl rfl (dj := 111) rfl g154 ?_
       refine rd_passV rfl rfl (dj := 111) rfl g154 ?_
       refine rd_passV rfl rfl (dj := 111) rfl g154 ?_
       refine rd_v rfl (v_pick_t rfl g154 rfl) ?_
       exact hJ153 _ () h _ (join_imp 7 rfl rfl (mod_cons (j := 118) rfl (fun _ _ h => h) mod_nil) .nil)
      ·
       refine rd_vt rfl rfl (dj := 111) rfl g154 (v_move rfl) ?_
       refine cal_inv h fun y155 hy155 h => ?_
       refine rd_vt rfl rfl (dj := 111) rfl g154 (v_ix (l := q2) rfl (fun _ _ h => h) rfl sl63 hy155) ?_
       refine rd_vt rfl rfl (dj := 111) rfl g154 (v_loadI ty5 rfl) ?_
       refine rd_vt rfl rfl (dj := 111) rfl g154 (v_fi rfl GAcc.f0 fd183_0 rfl (z := (tab2 (shr8 (tab1 y99) (4 : UInt64).toNat)).lo)) ?_
       refine rd_vt rfl rfl (dj := 111) rfl g154 (v_loadI ty5 rfl) ?_
       refine rd_vt rfl rfl (dj := 111) rfl g154 (v_lss8 rfl rfl) ?_
       refine rd_v rfl (v_pick_f rfl g154 rfl) ?_
       exact hJ153 _ () h _ (join_imp 7 rfl rfl (mod_cons (j := 118) rfl (fun _ _ h => h) mod_nil) .nil)
    ·
     refine wsr ?_
     refine oV (v_eql rfl rfl) ?_
     refine oV (v_assign rfl) ?_
     refine rnf ?_
     refine w_condM h rfl (fun _ h => ?_) (fun _ h => ?_)
     ·
      refine w_seq ?_
      refine w_seq ?_
      refine w_regionD (.v 0 (.v 1 (.v 2 (.v 3 (.v 4 (.v 5 (.v 6 (.v 7 (.v 8 (.v 9 (.v 10 (.v 11 (.v 12 (.v 13 (.v 14 (.v 15 (.v 16 (.v 17 (.v 18 (.v 19 (.v 20 (.v 21 (.v 22 (.v 23 (.v 24 (.v 25 (.v 26 (.v 27 (.v 28 (.v 29 (.v 30 (.v 31 (.v 32 (.v 33 (.v 34 (.v 35 (.v 36 (.v 37 (.v 38 (.v 39 (.v 40 (.v 41 (.v 42 .nil))))))))))))))))))))))))))))))))))))))))))) moOrd (by kernel_rfl) ?_
      refine rd_v rfl (v_move rfl) ?_
      refine rd_v rfl (v_ln (l := q2) rfl (fun _ _ h => h) sl63) ?_
      refine rd_v rfl (v_lss rfl rfl) ?_
      refine rd_v rfl (v_move rfl) ?_
      refine rd_j (ι := Bool) (γ := Unit) (fun q169 g169 => [(153, isv (q169))]) (fun q169 g169 => []) .nil h 7 rfl (fun q169 g169 h => ?_) (fun J170 h hJ170 => ?_)
      ·
       refine rd_v rfl (v_move rfl) ?_
       refine rd_j (ι := Bool) (γ := Unit) (fun q173 g173 => [(161, isv (q173))]) (fun q173 g173 => []) .nil h 7 rfl (fun q173 g173 h => ?_) (fun J174 h hJ174 => ?_)
       ·
        refine rd_v rfl (v_move rfl) ?_
        refine rd_j (ι := Bool) (γ := Unit) (fun q177 g177 => [(167, isv (q177))]) (fun q177 g177 => []) .nil h 5 rfl (fun q177 g177 h => ?_) (fun J178 h hJ178 => ?_)
        ·
         refine rd_v rfl (v_move rfl) ?_
         refine rd_j (ι := Bool) (γ := Unit) (fun q181 g181 => [(173, isv (q181))]) (fun q181 g181 => []) .nil h 5 rfl (fun q181 g181 h => ?_) (fun J182 h hJ182 => ?_)
         ·
          refine rd_v rfl (v_move rfl) ?_
          refine rd_j (ι := Bool) (γ := Unit) (fun q185 g185 => [(179, isv (q185))]) (fun q185 g185 => []) .nil h 5 rfl (fun q185 g185 h => ?_) (fun J186 h hJ186 => ?_)
          ·
           refine rd_v rfl (v_move rfl) ?_
           refine rd_j (ι := Bool) (γ := Unit) (fun q189 g189 => [(185, isv (q189))]) (fun q189 g189 => []) .nil h 5 rfl (fun q189 g189 h => ?_) (fun J190 h hJ190 => ?_)
           ·
            refine rd_nil ?_
            refine fin_nxt ?_
            refine w_condM h rfl (fun _ h => ?_) (fun _ h => ?_)
            ·
             refine wsr ?_
             refine oV (v_assign rfl) ?_
             refine rnf ?_
             refine w_ret ?_
             refine ret_nxt ?_
             refine ret_block ?_
             refine ret_block ?_
             refine rL3 _ ?_
             refine ret_block ?_
             refine ret_nxt ?_
             refine ret_post (.tmp rfl .nil) .nil ?_
             obtain rfl := Option.some.inj h
             exact ⟨rfl, rfl⟩
            ·
             refine wkf ?_
             refine w_region ?_
             refine oV (v_move rfl) ?_
             refine asd_inv h fun q193 h => ?_
             refine oV (v_sl (l := q2) rfl (fun _ _ h => h) sl63 (.inr ⟨_, rfl, rfl⟩) (.inl ⟨rfl, rfl⟩) q193.1 q193.2.1 q193.2.2) ?_
             refine oV (v_assign rfl) ?_
             refine rl_nil ?_
             refine fin_block ?_
             refine fin_block ?_
             exact hL3 _ () h _ (join_imp 49 rfl rfl (mod_cons (j := 0) rfl (fun _ _ h => h) mod_nil) .nil)
           ·
            refine rd_condM (j := 180) h rfl (fun g191 h => ?_) (fun g191 h => ?_)
            ·
             refine rd_passV rfl rfl (dj := 180) rfl g191 ?_
             refine rd_passV rfl rfl (dj := 180) rfl g191 ?_
             refine rd_passV rfl rfl (dj := 180) rfl g191 ?_
             refine rd_passV rfl rfl (dj := 180) rfl g191 ?_
             refine rd_v rfl (v_pick_t rfl g191 rfl) ?_
             exact hJ190 _ () h _ (join_imp 5 rfl rfl (mod_cons (j := 185) rfl (fun _ _ h => h) mod_nil) .nil)
            ·
             refine rd_vt rfl rfl (dj := 180) rfl g191 (v_move rfl) ?_
             refine cal_inv h fun y192 hy192 h => ?_
             refine rd_vt rfl rfl (dj := 180) rfl g191 (v_ix (l := q2) rfl (fun _ _ h => h) rfl sl63 hy192) ?_
             refine rd_vt rfl rfl (dj := 180) rfl g191 (v_loadI ty5 rfl) ?_
             refine rd_vt rfl rfl (dj := 180) rfl g191 (v_lss8 rfl rfl) ?_
             refine rd_v rfl (v_pick_f rfl g191 rfl) ?_
             exact hJ190 _ () h _ (join_imp 5 rfl rfl (mod_cons (j := 185) rfl (fun _ _ h => h) mod_nil) .nil)
          ·
           refine rd_condM (j := 174) h rfl (fun g187 h => ?_) (fun g187 h => ?_)
           ·
            refine rd_passV rfl rfl (dj := 174) rfl g187 ?_
            refine rd_passV rfl rfl (dj := 174) rfl g187 ?_
            refine rd_passV rfl rfl (dj := 174) rfl g187 ?_
            refine rd_passV rfl rfl (dj := 174) rfl g187 ?_
            refine rd_v rfl (v_pick_t rfl g187 rfl) ?_
            exact hJ186 _ () h _ (join_imp 5 rfl rfl (mod_cons (j := 179) rfl (fun _ _ h => h) mod_nil) .nil)
           ·
            refine rd_vt rfl rfl (dj := 174) rfl g187 (v_move rfl) ?_
            refine cal_inv h fun y188 hy188 h => ?_
            refine rd_vt rfl rfl (dj := 174) rfl g187 (v_ix (l := q2) rfl (fun _ _ h => h) rfl sl63 hy188) ?_
            refine rd_vt rfl rfl (dj := 174) rfl g187 (v_loadI ty5 rfl) ?_
            refine rd_vt rfl rfl (dj := 174) rfl g187 (v_lss8 rfl rfl) ?_
            refine rd_v rfl (v_pick_f rfl g187 rfl) ?_
            exact hJ186 _ () h _ (join_imp 5 rfl rfl (mod_cons (j := 179) rfl (fun _ _ h => h) mod_nil) .nil)
         ·
          refine rd_condM (j := 168) h rfl (fun g183 h => ?_) (fun g183 h => ?_)
          ·
           refine rd_passV rfl rfl (dj := 168) rfl g183 ?_
           refine rd_passV rfl rfl (dj := 168) rfl g183 ?_
           refine rd_passV rfl rfl (dj := 168) rfl g183 ?_
           refine rd_passV rfl rfl (dj := 168) rfl g183 ?_
           refine rd_v rfl (v_pick_t rfl g183 rfl) ?_
           exact hJ182 _ () h _ (join_imp 5 rfl rfl (mod_cons (j := 173) rfl (fun _ _ h => h) mod_nil) .nil)
          ·
           refine rd_vt rfl rfl (dj := 168) rfl g183 (v_move rfl) ?_
           refine cal_inv h fun y184 hy184 h => ?_
           refine rd_vt rfl rfl (dj := 168) rfl g183 (v_ix (l := q2) rfl (fun _ _ h => h) rfl sl63 hy184) ?_
           refine rd_vt rfl rfl (dj := 168) rfl g183 (v_loadI ty5 rfl) ?_
           refine rd_vt rfl rfl (dj := 168) rfl g183 (v_lss8 rfl rfl) ?_
           refine rd_v rfl (v_pick_f rfl g183 rfl) ?_
           exact hJ182 _ () h _ (join_imp 5 rfl rfl (mod_cons (j := 173) rfl (fun _ _ h => h) mod_nil) .nil)
        ·
         refine rd_condM (j := 162) h rfl (fun g179 h => ?_) (fun g179 h => ?_)
         ·
          refine rd_passV rfl rfl (dj := 162) rfl g179 ?_
          refine rd_passV rfl rfl (dj := 162) rfl g179 ?_
          refine rd_passV rfl rfl (dj := 162) rfl g179 ?_
          refine rd_passV rfl rfl (dj := 162) rfl g179 ?_
          refine rd_v rfl (v_pick_t rfl g179 rfl) ?_
          exact hJ178 _ () h _ (join_imp 5 rfl rfl (mod_cons (j := 167) rfl (fun _ _ h => h) mod_nil) .nil)
         ·
          refine rd_vt rfl rfl (dj := 162) rfl g179 (v_move rfl) ?_
          refine cal_inv h fun y180 hy180 h => ?_
          refine rd_vt rfl rfl (dj := 162) rfl g179 (v_ix (l := q2) rfl (fun _ _ h => h) rfl sl63 hy180) ?_
          refine rd_vt rfl rfl (dj := 162) rfl g179 (v_loadI ty5 rfl) ?_
          refine rd_vt rfl rfl (dj := 162) rfl g179 (v_lss8 rfl rfl) ?_
          refine rd_v rfl (v_pick_f rfl g179 rfl) ?_
          exact hJ178 _ () h _ (join_imp 5 rfl rfl (mod_cons (j := 167) rfl (fun _ _ h => h) mod_nil) .nil)
       ·
        refine rd_condM (j := 154) h rfl (fun g175 h => ?_) (fun g175 h => ?_)
        ·
         refine rd_passV rfl rfl (dj := 154) rfl g175 ?_
         refine rd_passV rfl rfl (dj := 154) rfl g175 ?_
         refine rd_passV rfl rfl (dj := 154) rfl g175 ?_
         refine rd_passV rfl rfl (dj := 154) rfl g175 ?_
         refine rd_passV rfl rfl (dj := 154) rfl g175 ?_
         refine rd_passV rfl rfl (dj := 154) rfl g175 ?_
         refine rd_v rfl (v_pick_t rfl g175 rfl) ?_
         exact hJ174 _ () h _ (join_imp 7 rfl rfl (mod_cons (j := 161) rfl (fun _ _ h => h) mod_nil) .nil)
        ·
         refine rd_vt rfl rfl (dj := 154) rfl g175 (v_fi rfl GAcc.f1 fd183_1 rfl (z := (tab2 (shr8 (tab1 y99) (4 : UInt64).toNat)).hi)) ?_
         refine rd_vt rfl rfl (dj := 154) rfl g175 (v_loadI ty5 rfl) ?_
         refine rd_vt rfl rfl (dj := 154) rfl g175 (v_move rfl) ?_
         refine cal_inv h fun y176 hy176 h => ?_
         refine rd_vt rfl rfl (dj := 154) rfl g175 (v_ix (l := q2) rfl (fun _ _ h => h) rfl sl63 hy176) ?_
         refine rd_vt rfl rfl (dj := 154) rfl g175 (v_loadI ty5 rfl) ?_
         refine rd_vt rfl rfl (dj := 154) rfl g175 (v_lss8 rfl rfl) ?_
         refine rd_v rfl (v_pick_f rfl g175 rfl) ?_
         exact hJ174 _ () h _ (join_imp 7 rfl rfl (mod_cons (j := 161) rfl (fun _ _ h => h) mod_nil) .nil)
      ·
       refine rd_condM (j := 146) h rfl (fun g171 h => ?_) (fun g171 h => ?_)
       ·
        refine rd_passV rfl rfl (dj := 146) rfl g171 ?_
        refine rd_passV rfl rfl (dj := 146) rfl g171 ?_
        refine rd_passV rfl rfl (dj := 146) rfl g171 ?_
        refine rd_passV rfl rfl (dj := 146) rfl g171 ?_
        refine rd_passV rfl rfl (dj := 146) rfl g171 ?_
        refine rd_passV rfl rfl (dj := 146) rfl g171 ?_
        refine rd_v rfl (v_pick_t rfl g171 rfl) ?_
        exact hJ170 _ () h _ (join_imp 7 rfl rfl (mod_cons (j := 153) rfl (fun _ _ h => h) mod_nil) .nil)
       ·
        refine rd_vt rfl rfl (dj := 146) rfl g171 (v_move rfl) ?_
        refine cal_inv h fun y172 hy172 h => ?_
        refine rd_vt rfl rfl (dj := 146) rfl g171 (v_ix (l := q2) rfl (fun _ _ h => h) rfl sl63 hy172) ?_
        refine rd_vt rfl rfl (dj := 146) rfl g171 (v_loadI ty5 rfl) ?_
        refine rd_vt rfl rfl (dj := 146) rfl g171 (v_fi rfl GAcc.f0 fd183_0 rfl (z := (tab2 (shr8 (tab1 y99) (4 : UInt64).toNat)).lo)) ?_
        refine rd_vt rfl rfl (dj := 146) rfl g171 (v_loadI ty5 rfl) ?_
        refine rd_vt rfl rfl (dj := 146) rfl g171 (v_lss8 rfl rfl) ?_
        refine rd_v rfl (v_pick_f rfl g171 rfl) ?_
        exact hJ170 _ () h _ (join_imp 7 rfl rfl (mod_cons (j := 153) rfl (fun _ _ h => h) mod_nil) .nil)
     ·
      refine wsr ?_
      refine oV (v_assign rfl) ?_
      refine rnf ?_
      refine w_ret ?_
      refine ret_block ?_
      refine ret_block ?_
      refine rL3 _ ?_
      refine ret_block ?_
      refine ret_nxt ?_
      refine ret_post (.tmp rfl .nil) .nil ?_
      obtain rfl := Option.some.inj h
      exact ⟨rfl, rfl⟩
 ·
  refine w_exit ?_
  refine exi_nxt ?_
  refine eL3 _ _ ?_
  refine exi_block ?_
  refine fin_nxt ?_
  refine wsr ?_
  refine oV (v_assign rfl) ?_
  refine rnf ?_
  refine w_ret ?_
  refine ret_post (.tmp rfl .nil) .nil ?_
  obtain rfl := Option.some.inj h
  exact ⟨rfl, rfl⟩

end Go.Proofs.YtajbipkppngccaaDoor

