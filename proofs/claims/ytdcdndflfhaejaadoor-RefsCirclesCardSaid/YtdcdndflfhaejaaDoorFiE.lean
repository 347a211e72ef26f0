/- Walks, printed by mill.py. -/
import Derived.Test.YtdcdndflfhaejaaDoorFiA
import Derived.Test.YtdcdndflfhaejaaDoorFiB
import Derived.Test.YtdcdndflfhaejaaDoorFiC
import Derived.Test.YtdcdndflfhaejaaDoorFiD
set_option linter.unusedVariables false
set_option linter.unusedSimpArgs false

namespace Go.Proofs.YtdcdndflfhaejaaDoor
open Go.Sy
set_option maxRecDepth 4000
def r05_parser_field_C (f' : GPar → GNode → Int → Int → Option (GPar × GNode)) : Prop :=
 ∀ {a_x : GPar} {a_n_ : GNode} {a_depth : Int} {a_group : Int} {b_a_x : Nat} {t_a_x1 : Tok} {t_a_x2 : Tok} {v_a_x3 : Vt} {b_a_n_ : Nat} {t_a_n_4 : Tok} {t_a_n_5 : Tok} {r : GPar × GNode}, f' a_x a_n_ a_depth a_group = some r → Ctr Tryd.prog 70 [ptrv b_a_x (Fld.id ((List GTok) × Int × (Str × Int × (TList Str) × (TList Int) × Vh) × Int × Int)), ptrv b_a_n_ (Fld.id (Int × Str × GMark × GCon × (TList GItem) × (TList GFld) × Int × Bool × Int)), isv (a_depth), isv (a_group)] [boxE b_a_x ((a_x.l, a_x.at_, (a_x.m.name, a_x.m.tagging, (TList.mk t_a_x1 a_x.m.names), (TList.mk t_a_x2 a_x.m.types), (Vh.mk v_a_x3 a_x.m.nodes.length)), a_x.e, a_x.p) : ((List GTok) × Int × (Str × Int × (TList Str) × (TList Int) × Vh) × Int × Int)), tokE t_a_x1, tokE t_a_x2, vecE v_a_x3 (a_x.m.nodes : List GNode), boxE b_a_n_ ((a_n_.kind, a_n_.name, a_n_.mark, a_n_.con, (TList.mk t_a_n_4 a_n_.items), (TList.mk t_a_n_5 a_n_.fields), a_n_.root, a_n_.more, a_n_.of) : (Int × Str × GMark × GCon × (TList GItem) × (TList GFld) × Int × Bool × Int)), tokE t_a_n_4, tokE t_a_n_5] (fun R H => ∃ u1 : Tok, ∃ u2 : Tok, ∃ u3 : Vt, ∃ u4 : Tok, ∃ u5 : Tok, R = oneOf [] ∧ H = [boxE b_a_x ((r.1.l, r.1.at_, (r.1.m.name, r.1.m.tagging, (TList.mk u1 r.1.m.names), (TList.mk u2 r.1.m.types), (Vh.mk u3 r.1.m.nodes.length)), r.1.e, r.1.p)), tokE u1, tokE u2, vecE u3 (r.1.m.nodes), boxE b_a_n_ ((r.2.kind, r.2.name, r.2.mark, r.2.con, (TList.mk u4 r.2.items), (TList.mk u5 r.2.fields), r.2.root, r.2.more, r.2.of)), tokE u4, tokE u5])
def r05_parser_typ_C (f' : GPar → Int → Option (Int × GPar)) : Prop :=
 ∀ {a_x : GPar} {a_depth : Int} {b_a_x : Nat} {t_a_x1 : Tok} {t_a_x2 : Tok} {v_a_x3 : Vt} {r : Int × GPar}, f' a_x a_depth = some r → Ctr Tryd.prog 25 [ptrv b_a_x (Fld.id ((List GTok) × Int × (Str × Int × (TList Str) × (TList Int) × Vh) × Int × Int)), isv (a_depth)] [boxE b_a_x ((a_x.l, a_x.at_, (a_x.m.name, a_x.m.tagging, (TList.mk t_a_x1 a_x.m.names), (TList.mk t_a_x2 a_x.m.types), (Vh.mk v_a_x3 a_x.m.nodes.length)), a_x.e, a_x.p) : ((List GTok) × Int × (Str × Int × (TList Str) × (TList Int) × Vh) × Int × Int)), tokE t_a_x1, tokE t_a_x2, vecE v_a_x3 (a_x.m.nodes : List GNode)] (fun R H => ∃ u1 : Tok, ∃ u2 : Tok, ∃ u3 : Vt, R = oneOf [isv (r.1)] ∧ H = [boxE b_a_x ((r.2.l, r.2.at_, (r.2.m.name, r.2.m.tagging, (TList.mk u1 r.2.m.names), (TList.mk u2 r.2.m.types), (Vh.mk u3 r.2.m.nodes.length)), r.2.e, r.2.p)), tokE u1, tokE u2, vecE u3 (r.2.m.nodes)])
def r05_parser_base_C (f' : GPar → GNode → Int → Option (GPar × GNode)) : Prop :=
 ∀ {a_x : GPar} {a_n_ : GNode} {a_depth : Int} {b_a_x : Nat} {t_a_x1 : Tok} {t_a_x2 : Tok} {v_a_x3 : Vt} {b_a_n_ : Nat} {t_a_n_4 : Tok} {t_a_n_5 : Tok} {r : GPar × GNode}, f' a_x a_n_ a_depth = some r → Ctr Tryd.prog 43 [ptrv b_a_x (Fld.id ((List GTok) × Int × (Str × Int × (TList Str) × (TList Int) × Vh) × Int × Int)), ptrv b_a_n_ (Fld.id (Int × Str × GMark × GCon × (TList GItem) × (TList GFld) × Int × Bool × Int)), isv (a_depth)] [boxE b_a_x ((a_x.l, a_x.at_, (a_x.m.name, a_x.m.tagging, (TList.mk t_a_x1 a_x.m.names), (TList.mk t_a_x2 a_x.m.types), (Vh.mk v_a_x3 a_x.m.nodes.length)), a_x.e, a_x.p) : ((List GTok) × Int × (Str × Int × (TList Str) × (TList Int) × Vh) × Int × Int)), tokE t_a_x1, tokE t_a_x2, vecE v_a_x3 (a_x.m.nodes : List GNode), boxE b_a_n_ ((a_n_.kind, a_n_.name, a_n_.mark, a_n_.con, (TList.mk t_a_n_4 a_n_.items), (TList.mk t_a_n_5 a_n_.fields), a_n_.root, a_n_.more, a_n_.of) : (Int × Str × GMark × GCon × (TList GItem) × (TList GFld) × Int × Bool × Int)), tokE t_a_n_4, tokE t_a_n_5] (fun R H => ∃ u1 : Tok, ∃ u2 : Tok, ∃ u3 : Vt, ∃ u4 : Tok, ∃ u5 : Tok, R = oneOf [] ∧ H = [boxE b_a_x ((r.1.l, r.1.at_, (r.1.m.name, r.1.m.tagging, (TList.mk u1 r.1.m.names), (TList.mk u2 r.1.m.types), (Vh.mk u3 r.1.m.nodes.length)), r.1.e, r.1.p)), tokE u1, tokE u2, vecE u3 (r.1.m.nodes), boxE b_a_n_ ((r.2.kind, r.2.name, r.2.mark, r.2.con, (TList.mk u4 r.2.items), (TList.mk u5 r.2.fields), r.2.root, r.2.more, r.2.of)), tokE u4, tokE u5])
def r05_parser_fields_C (f' : GPar → GNode → Int → Option (GPar × GNode)) : Prop :=
 ∀ {a_x : GPar} {a_n_ : GNode} {a_depth : Int} {b_a_x : Nat} {t_a_x1 : Tok} {t_a_x2 : Tok} {v_a_x3 : Vt} {b_a_n_ : Nat} {t_a_n_4 : Tok} {t_a_n_5 : Tok} {r : GPar × GNode}, f' a_x a_n_ a_depth = some r → Ctr Tryd.prog 64 [ptrv b_a_x (Fld.id ((List GTok) × Int × (Str × Int × (TList Str) × (TList Int) × Vh) × Int × Int)), ptrv b_a_n_ (Fld.id (Int × Str × GMark × GCon × (TList GItem) × (TList GFld) × Int × Bool × Int)), isv (a_depth)] [boxE b_a_x ((a_x.l, a_x.at_, (a_x.m.name, a_x.m.tagging, (TList.mk t_a_x1 a_x.m.names), (TList.mk t_a_x2 a_x.m.types), (Vh.mk v_a_x3 a_x.m.nodes.length)), a_x.e, a_x.p) : ((List GTok) × Int × (Str × Int × (TList Str) × (TList Int) × Vh) × Int × Int)), tokE t_a_x1, tokE t_a_x2, vecE v_a_x3 (a_x.m.nodes : List GNode), boxE b_a_n_ ((a_n_.kind, a_n_.name, a_n_.mark, a_n_.con, (TList.mk t_a_n_4 a_n_.items), (TList.mk t_a_n_5 a_n_.fields), a_n_.root, a_n_.more, a_n_.of) : (Int × Str × GMark × GCon × (TList GItem) × (TList GFld) × Int × Bool × Int)), tokE t_a_n_4, tokE t_a_n_5] (fun R H => ∃ u1 : Tok, ∃ u2 : Tok, ∃ u3 : Vt, ∃ u4 : Tok, ∃ u5 : Tok, R = oneOf [] ∧ H = [boxE b_a_x ((r.1.l, r.1.at_, (r.1.m.name, r.1.m.tagging, (TList.mk u1 r.1.m.names), (TList.mk u2 r.1.m.types), (Vh.mk u3 r.1.m.nodes.length)), r.1.e, r.1.p)), tokE u1, tokE u2, vecE u3 (r.1.m.nodes), boxE b_a_n_ ((r.2.kind, r.2.name, r.2.mark, r.2.con, (TList.mk u4 r.2.items), (TList.mk u5 r.2.fields), r.2.root, r.2.more, r.2.of)), tokE u4, tokE u5])
theorem r05_parser_field_w0 {r05_parser_field' : GPar → GNode → Int → Int → Option (GPar × GNode)} {r05_parser_typ' : GPar → Int → Option (Int × GPar)} {r05_parser_base' : GPar → GNode → Int → Option (GPar × GNode)} {r05_parser_fields' : GPar → GNode → Int → Option (GPar × GNode)} (h_r05_parser_field : r05_parser_field_C r05_parser_field') (h_r05_parser_typ : r05_parser_typ_C r05_parser_typ') (h_r05_parser_base : r05_parser_base_C r05_parser_base') (h_r05_parser_fields : r05_parser_fields_C r05_parser_fields') : ∀ {a_x : GPar} {a_n_ : GNode} {a_depth : Int} {a_group : Int} {b_a_x : Nat} {t_a_x1 : Tok} {t_a_x2 : Tok} {v_a_x3 : Vt} {b_a_n_ : Nat} {t_a_n_4 : Tok} {t_a_n_5 : Tok} {r : GPar × GNode}, r05_parser_field_F r05_parser_field' r05_parser_typ' r05_parser_base' r05_parser_fields' a_x a_n_ a_depth a_group = some r → Ctr Tryd.prog 70 [ptrv b_a_x (Fld.id ((List GTok) × Int × (Str × Int × (TList Str) × (TList Int) × Vh) × Int × Int)), ptrv b_a_n_ (Fld.id (Int × Str × GMark × GCon × (TList GItem) × (TList GFld) × Int × Bool × Int)), isv (a_depth), isv (a_group)] [boxE b_a_x ((a_x.l, a_x.at_, (a_x.m.name, a_x.m.tagging, (TList.mk t_a_x1 a_x.m.names), (TList.mk t_a_x2 a_x.m.types), (Vh.mk v_a_x3 a_x.m.nodes.length)), a_x.e, a_x.p) : ((List GTok) × Int × (Str × Int × (TList Str) × (TList Int) × Vh) × Int × Int)), tokE t_a_x1, tokE t_a_x2, vecE v_a_x3 (a_x.m.nodes : List GNode), boxE b_a_n_ ((a_n_.kind, a_n_.name, a_n_.mark, a_n_.con, (TList.mk t_a_n_4 a_n_.items), (TList.mk t_a_n_5 a_n_.fields), a_n_.root, a_n_.more, a_n_.of) : (Int × Str × GMark × GCon × (TList GItem) × (TList GFld) × Int × Bool × Int)), tokE t_a_n_4, tokE t_a_n_5] (fun R H => ∃ u1 : Tok, ∃ u2 : Tok, ∃ u3 : Vt, ∃ u4 : Tok, ∃ u5 : Tok, R = oneOf [] ∧ H = [boxE b_a_x ((r.1.l, r.1.at_, (r.1.m.name, r.1.m.tagging, (TList.mk u1 r.1.m.names), (TList.mk u2 r.1.m.types), (Vh.mk u3 r.1.m.nodes.length)), r.1.e, r.1.p)), tokE u1, tokE u2, vecE u3 (r.1.m.nodes), boxE b_a_n_ ((r.2.kind, r.2.name, r.2.mark, r.2.con, (TList.mk u4 r.2.items), (TList.mk u5 r.2.fields), r.2.root, r.2.more, r.2.of)), tokE u4, tokE u5]) := by
 intro a_x a_n_ a_depth a_group b_a_x t_a_x1 t_a_x2 v_a_x3 b_a_n_ t_a_n_4 t_a_n_5 r h
 unfold r05_parser_field_F at h
 refine spec_intro Tryd.func70 rfl (by decide +kernel) (by rfl) fun w0 S0 hT => ?_
 refine wsr ?_
 refine oV (v_move rfl) ?_
 refine cal_inv h fun y6 hy6 h => ?_
 refine oT (t_call (r05_parser_kind_w hy6) hT (.same rfl (.same rfl .nil)) (.cons .here (.cons .here (.cons .here (.cons .here .nil)))) (fun R H' hR => ?_))
 obtain ⟨t7, t8, rfl, rfl⟩ := hR
 refine oV (v_move rfl) ?_
 refine oV (v_build (z := (GFld.mk y6.1 (0 : Int) false false (Val.mk (0 : Int) (0 : Int) ([] : (List UInt8)) ([] : (List Val)) (0 : Int) ([] : (List Raw))) a_group)) rfl bu97 ze97 (.cons GFld.f0 fd97_0 rfl (fun _ _ h => h) (.cons GFld.f5 fd97_5 rfl (fun _ _ h => h) .nil))) ?_
 refine oT (t_alloc _ ze97 fun b9 => ?_)
 refine oT (t_storeC (y' := ((GFld.mk y6.1 (0 : Int) false false (Val.mk (0 : Int) (0 : Int) ([] : (List UInt8)) ([] : (List Val)) (0 : Int) ([] : (List Raw))) a_group) : GFld)) ty97 rfl rfl (fun _ _ h => h) .here rfl ?_)
 refine rnf ?_
 refine wsr ?_
 refine oV (v_move rfl) ?_
 refine oV (v_move rfl) ?_
 refine ck_inv h fun q10 h => ?_
 refine oV (v_add rfl rfl q10) ?_
 refine cal_inv h fun y11 hy11 h => ?_
 refine oT (t_call (h_r05_parser_typ hy11) hT (.same rfl (.same rfl .nil)) (.cons (.there .here) (.cons (.there .here) (.cons (.there .here) (.cons (.there .here) .nil)))) (fun R H' hR => ?_))
 obtain ⟨t12, t13, v14, rfl, rfl⟩ := hR
 refine oV (v_fa rfl GFld.f1 fd97_1) ?_
 refine oT (t_storeC (y' := ((GFld.mk y6.1 y11.1 false false (Val.mk (0 : Int) (0 : Int) ([] : (List UInt8)) ([] : (List Val)) (0 : Int) ([] : (List Raw))) a_group) : GFld)) ty3 rfl rfl (fun _ _ h => h) (.there (.there (.there (.there .here)))) rfl ?_)
 refine rnf ?_
 refine w_seq ?_
 refine w_J (ι := GFld × GPar) (γ := Tok × Tok) (fun q15 g15 => []) (fun q15 g15 => [boxE b9 (q15.1 : GFld), boxE b_a_x ((q15.2.l, q15.2.at_, (q15.2.m.name, q15.2.m.tagging, (TList.mk g15.1 q15.2.m.names), (TList.mk g15.2 q15.2.m.types), (Vh.mk v14 q15.2.m.nodes.length)), q15.2.e, q15.2.p) : ((List GTok) × Int × (Str × Int × (TList Str) × (TList Int) × Vh) × Int × Int)), tokE g15.1, tokE g15.2, vecE v14 (q15.2.m.nodes : List GNode)]) (.cons .here (.cons .here (.cons .here (.cons .here (.cons .here .nil))))) h (fun q15 g15 h => ?_) (fun J16 h hJ16 => ?_)
 ·
  refine w_pinN 8 .here rfl (fun o26 hn27 => ?_)
  refine w_regionD (.v 0 (.v 1 (.v 2 (.v 3 (.v 5 (.alt 4 (.t 6 (.t 7 (.v 8 (.v 9 (.t 10 .nil))))) (.t 6 (.t 4 (.t 7 (.v 8 (.v 9 (.t 10 .nil)))))))))))) moOrd (by kernel_rfl) ?_
  refine rd_v rfl (v_move rfl) ?_
  refine rd_v rfl (v_move rfl) ?_
  refine rd_v rfl (v_nilCheck rfl) ?_
  refine rd_v rfl (v_fa rfl pt83_0_5 fd83_5) ?_
  refine rd_v rfl (v_lpC (R := isv (q15.1)) ty97 rfl (List.Mem.head _) (fun _ _ h => h)) ?_
  refine asr_inv h fun q30 h => ?_
  refine rd_two ?_ ?_
  ·
   refine rd_t rfl rfl (t_loadC (R := appv t_a_n_5 (a_n_.fields)) ty81 rfl (.there (.there (.there (.there .here)))) isvT1 ?_)
   refine rd_t rfl rfl (t_buildSlice (l := ([q15.1] : (List GFld))) el81 (.cons rfl (fun _ _ h => h) .nil) rfl rfl ?_)
   refine rd_t rfl rfl (t_appC (l := a_n_.fields) (m := ([q15.1] : (List GFld))) ap81_81 rfl (fun _ _ h => h) rfl appv_isv (.there (.there (.there (.there (.there (.there .here)))))) q30 fun t29 => ?_)
   refine rd_v rfl (v_nilCheck rfl) ?_
   refine rd_v rfl (v_fa rfl pt83_0_5 fd83_5) ?_
   refine rd_t rfl rfl (t_storeC (y' := ((a_n_.kind, a_n_.name, a_n_.mark, a_n_.con, (TList.mk t_a_n_4 a_n_.items), (TList.mk t29 (a_n_.fields ++ ([q15.1] : (List GFld)))), a_n_.root, a_n_.more, a_n_.of) : (Int × Str × GMark × GCon × (TList GItem) × (TList GFld) × Int × Bool × Int))) ty81 rfl rfl isvT2 (.there (.there (.there (.there (.there .here))))) rfl ?_)
   refine rd_nil ?_
   refine fin_unpinN 8 hn27 rfl ?_
   refine fin_post .nil (.cons (.there (.there (.there .here))) (.cons (.there (.there (.there .here))) (.cons (.there (.there (.there .here))) (.cons (.there (.there (.there .here))) (.cons (.there .here) (.cons (.there (.there .here)) (.cons (.there .here) .nil))))))) ?_
   obtain rfl := Option.some.inj h
   exact ⟨g15.1, g15.2, v14, t_a_n_4, t29, rfl, rfl⟩
  ·
   refine rd_t rfl rfl (t_buildSlice (l := ([q15.1] : (List GFld))) el81 (.cons rfl (fun _ _ h => h) .nil) rfl rfl ?_)
   refine rd_t rfl rfl (t_loadC (R := appv t_a_n_5 (a_n_.fields)) ty81 rfl (.there (.there (.there (.there .here)))) isvT1 ?_)
   refine rd_t rfl rfl (t_appC (l := a_n_.fields) (m := ([q15.1] : (List GFld))) ap81_81 rfl (fun _ _ h => h) rfl appv_isv (.there (.there (.there (.there (.there (.there .here)))))) q30 fun t32 => ?_)
   refine rd_v rfl (v_nilCheck rfl) ?_
   refine rd_v rfl (v_fa rfl pt83_0_5 fd83_5) ?_
   refine rd_t rfl rfl (t_storeC (y' := ((a_n_.kind, a_n_.name, a_n_.mark, a_n_.con, (TList.mk t_a_n_4 a_n_.items), (TList.mk t32 (a_n_.fields ++ ([q15.1] : (List GFld)))), a_n_.root, a_n_.more, a_n_.of) : (Int × Str × GMark × GCon × (TList GItem) × (TList GFld) × Int × Bool × Int))) ty81 rfl rfl isvT2 (.there (.there (.there (.there (.there .here))))) rfl ?_)
   refine rd_nil ?_
   refine fin_unpinN 8 hn27 rfl ?_
   refine fin_post .nil (.cons (.there (.there (.there .here))) (.cons (.there (.there (.there .here))) (.cons (.there (.there (.there .here))) (.cons (.there (.there (.there .here))) (.cons (.there .here) (.cons (.there (.there .here)) (.cons (.there .here) .nil))))))) ?_
   obtain rfl := Option.some.inj h
   exact ⟨g15.1, g15.2, v14, t_a_n_4, t32, rfl, rfl⟩
 ·
  refine w_block ?_
  refine wsr ?_
  refine oV (v_move rfl) ?_
  refine oV (v_nilCheck rfl) ?_
  refine oV (v_fa rfl pt83_0_0 fd83_0) ?_
  refine oT (t_loadC (R := isv (a_n_.kind)) ty3 rfl (.there (.there (.there (.there (.there .here))))) (fun _ _ h => h) ?_)
  refine oV (v_eql rfl rfl) ?_
  refine oV (v_assign rfl) ?_
  refine rnf ?_
  refine w_condM h rfl (fun _ h => ?_) (fun _ h => ?_)
  ·
   refine w_skip ?_
   refine fin_block ?_
   exact hJ16 _ (t12, t13) h _ (join_imp 6 rfl rfl mod_nil (.cons .here (.cons .here (.cons .here (.cons .here (.cons .here (.cons .here (.cons .here (.cons .here .nil)))))))))
  ·
   refine wsr ?_
   refine oV (v_move rfl) ?_
   refine cal_inv h fun y17 hy17 h => ?_
   refine oT (t_call (r05_parser_is_w hy17) hT (.same rfl (.same rfl .nil)) (.cons (.there .here) (.cons (.there .here) (.cons (.there .here) (.cons (.there .here) .nil)))) (fun R H' hR => ?_))
   obtain ⟨t18, t19, rfl, rfl⟩ := hR
   refine oV (v_assign rfl) ?_
   refine rnf ?_
   refine w_condM h rfl (fun _ h => ?_) (fun _ h => ?_)
   ·
    refine w_region ?_
    refine oV (v_fa rfl GFld.f2 fd97_2) ?_
    refine oT (t_storeC (y' := ((GFld.mk y6.1 y11.1 true false (Val.mk (0 : Int) (0 : Int) ([] : (List UInt8)) ([] : (List Val)) (0 : Int) ([] : (List Raw))) a_group) : GFld)) ty4 rfl rfl (fun _ _ h => h) (.there (.there (.there (.there .here)))) rfl ?_)
    refine rl_nil ?_
    refine fin_block ?_
    exact hJ16 _ (t18, t19) h _ (join_imp 10 rfl rfl mod_nil (.cons .here (.cons .here (.cons .here (.cons .here (.cons .here (.cons .here (.cons .here (.cons .here .nil)))))))))
   ·
    refine wsr ?_
    refine oV (v_move rfl) ?_
    refine cal_inv h fun y20 hy20 h => ?_
    refine oT (t_call (r05_parser_is_w hy20) hT (.same rfl (.same rfl .nil)) (.cons .here (.cons .here (.cons .here (.cons .here .nil)))) (fun R H' hR => ?_))
    obtain ⟨t21, t22, rfl, rfl⟩ := hR
    refine oV (v_assign rfl) ?_
    refine rnf ?_
    refine w_condM h rfl (fun _ h => ?_) (fun _ h => ?_)
    ·
     refine w_region ?_
     refine oV (v_move rfl) ?_
     refine cal_inv h fun y23 hy23 h => ?_
     refine oT (t_call (r05_parser_value_w hy23) hT (.same rfl .nil) (.cons .here (.cons .here (.cons .here (.cons .here .nil)))) (fun R H' hR => ?_))
     obtain ⟨t24, t25, rfl, rfl⟩ := hR
     refine oV (v_fa rfl GFld.f3 fd97_3) ?_
     refine oT (t_storeC (y' := ((GFld.mk y6.1 y11.1 false true (Val.mk (0 : Int) (0 : Int) ([] : (List UInt8)) ([] : (List Val)) (0 : Int) ([] : (List Raw))) a_group) : GFld)) ty4 rfl rfl (fun _ _ h => h) (.there (.there (.there (.there .here)))) rfl ?_)
     refine oV (v_fa rfl GFld.f4 fd97_4) ?_
     refine oT (t_storeC (y' := ((GFld.mk y6.1 y11.1 false true y23.1 a_group) : GFld)) ty95 rfl rfl (fun _ _ h => h) .here rfl ?_)
     refine rl_nil ?_
     refine fin_block ?_
     exact hJ16 _ (t24, t25) h _ (join_imp 16 rfl rfl mod_nil (.cons .here (.cons .here (.cons .here (.cons .here (.cons .here (.cons .here (.cons .here (.cons .here .nil)))))))))
    ·
     refine w_skip ?_
     refine fin_block ?_
     exact hJ16 _ (t21, t22) h _ (join_imp 12 rfl rfl mod_nil (.cons (.there (.there (.there (.there .here)))) (.cons .here (.cons .here (.cons .here (.cons .here (.cons .here (.cons .here (.cons .here .nil)))))))))

theorem r05_parser_typ_w0 {r05_parser_field' : GPar → GNode → Int → Int → Option (GPar × GNode)} {r05_parser_typ' : GPar → Int → Option (Int × GPar)} {r05_parser_base' : GPar → GNode → Int → Option (GPar × GNode)} {r05_parser_fields' : GPar → GNode → Int → Option (GPar × GNode)} (h_r05_parser_field : r05_parser_field_C r05_parser_field') (h_r05_parser_typ : r05_parser_typ_C r05_parser_typ') (h_r05_parser_base : r05_parser_base_C r05_parser_base') (h_r05_parser_fields : r05_parser_fields_C r05_parser_fields') : ∀ {a_x : GPar} {a_depth : Int} {b_a_x : Nat} {t_a_x1 : Tok} {t_a_x2 : Tok} {v_a_x3 : Vt} {r : Int × GPar}, r05_parser_typ_F r05_parser_field' r05_parser_typ' r05_parser_base' r05_parser_fields' a_x a_depth = some r → Ctr Tryd.prog 25 [ptrv b_a_x (Fld.id ((List GTok) × Int × (Str × Int × (TList Str) × (TList Int) × Vh) × Int × Int)), isv (a_depth)] [boxE b_a_x ((a_x.l, a_x.at_, (a_x.m.name, a_x.m.tagging, (TList.mk t_a_x1 a_x.m.names), (TList.mk t_a_x2 a_x.m.types), (Vh.mk v_a_x3 a_x.m.nodes.length)), a_x.e, a_x.p) : ((List GTok) × Int × (Str × Int × (TList Str) × (TList Int) × Vh) × Int × Int)), tokE t_a_x1, tokE t_a_x2, vecE v_a_x3 (a_x.m.nodes : List GNode)] (fun R H => ∃ u1 : Tok, ∃ u2 : Tok, ∃ u3 : Vt, R = oneOf [isv (r.1)] ∧ H = [boxE b_a_x ((r.2.l, r.2.at_, (r.2.m.name, r.2.m.tagging, (TList.mk u1 r.2.m.names), (TList.mk u2 r.2.m.types), (Vh.mk u3 r.2.m.nodes.length)), r.2.e, r.2.p)), tokE u1, tokE u2, vecE u3 (r.2.m.nodes)]) := by
 intro a_x a_depth b_a_x t_a_x1 t_a_x2 v_a_x3 r h
 unfold r05_parser_typ_F at h
 refine spec_intro Tryd.func25 rfl (by decide +kernel) (by rfl) fun w0 S0 hT => ?_
 refine wsr ?_
 refine oV (v_assign rfl) ?_
 refine rnf ?_
 refine w_seq ?_
 refine wsr ?_
 refine oV (v_move rfl) ?_
 refine oV (v_nilCheck rfl) ?_
 refine oV (v_fa rfl pt49_0_3 fd49_3) ?_
 refine oT (t_loadC (R := isv (a_x.e)) ty27 rfl .here (fun _ _ h => h) ?_)
 refine oV (v_neq rfl rfl) ?_
 refine rnf ?_
 refine w_condM h rfl (fun _ h => ?_) (fun _ h => ?_)
 ·
  refine wsr ?_
  refine oV (v_assign rfl) ?_
  refine rnf ?_
  refine w_ret ?_
  refine ret_nxt ?_
  refine ret_post (.tmp rfl .nil) (.cons .here (.cons .here (.cons .here (.cons .here .nil)))) ?_
  obtain rfl := Option.some.inj h
  exact ⟨t_a_x1, t_a_x2, v_a_x3, rfl, rfl⟩
 ·
  refine wkf ?_
  refine w_seq ?_
  refine wsr ?_
  refine oV (v_move rfl) ?_
  refine cal_inv h fun y4 hy4 h => ?_
  refine oT (t_call (r05_parser_now_w hy4) hT (.same rfl .nil) (.cons .here (.cons .here (.cons .here (.cons .here .nil)))) (fun R H' hR => ?_))
  obtain ⟨t5, t6, rfl, rfl⟩ := hR
  refine cal_inv h fun y7 hy7 h => ?_
  refine oT (t_call (r05_begins_w hy7) hT (.same rfl .nil) .nil (fun R H' hR => ?_))
  obtain ⟨rfl, rfl⟩ := hR
  refine oV (v_not rfl) ?_
  refine rnf ?_
  refine w_condM h rfl (fun _ h => ?_) (fun _ h => ?_)
  ·
   refine wsr ?_
   refine oV (v_move rfl) ?_
   refine oV (v_move rfl) ?_
   refine cal_inv h fun y8 hy8 h => ?_
   refine oT (t_call (r05_parser_now_w hy8) hT (.same rfl .nil) (.cons .here (.cons .here (.cons .here (.cons .here .nil)))) (fun R H' hR => ?_))
   obtain ⟨t9, t10, rfl, rfl⟩ := hR
   refine cal_inv h fun y11 hy11 h => ?_
   refine oT (t_call (r05_parser_fail_w hy11) hT (.same rfl (.same rfl (.same rfl .nil))) (.cons .here (.cons .here (.cons .here (.cons .here .nil)))) (fun R H' hR => ?_))
   obtain ⟨t12, t13, rfl, rfl⟩ := hR
   refine rnf ?_
   refine wsr ?_
   refine oV (v_assign rfl) ?_
   refine rnf ?_
   refine w_ret ?_
   refine ret_nxt ?_
   refine ret_post (.tmp rfl .nil) (.cons .here (.cons .here (.cons .here (.cons .here .nil)))) ?_
   obtain rfl := Option.some.inj h
   exact ⟨t12, t13, v_a_x3, rfl, rfl⟩
  ·
   refine wkf ?_
   refine w_seq ?_
   refine wsr ?_
   refine oV (v_move rfl) ?_
   refine oV (v_gtr rfl rfl) ?_
   refine oV (v_move rfl) ?_
   refine rl_j (ι := Bool) (γ := Unit) (fun q14 g14 => [(32, isv (q14))]) (fun q14 g14 => []) .nil h 8 rfl (fun q14 g14 h => ?_) (fun J15 h hJ15 => ?_)
   ·
    refine rnf ?_
    refine w_condM h rfl (fun _ h => ?_) (fun _ h => ?_)
    ·
     refine wsr ?_
     refine oV (v_move rfl) ?_
     refine oV (v_move rfl) ?_
     refine cal_inv h fun y17 hy17 h => ?_
     refine oT (t_call (r05_parser_now_w hy17) hT (.same rfl .nil) (.cons .here (.cons .here (.cons .here (.cons .here .nil)))) (fun R H' hR => ?_))
     obtain ⟨t18, t19, rfl, rfl⟩ := hR
     refine cal_inv h fun y20 hy20 h => ?_
     refine oT (t_call (r05_parser_fail_w hy20) hT (.same rfl (.same rfl (.same rfl .nil))) (.cons .here (.cons .here (.cons .here (.cons .here .nil)))) (fun R H' hR => ?_))
     obtain ⟨t21, t22, rfl, rfl⟩ := hR
     refine rnf ?_
     refine wsr ?_
     refine oV (v_assign rfl) ?_
     refine rnf ?_
     refine w_ret ?_
     refine ret_nxt ?_
     refine ret_post (.tmp rfl .nil) (.cons .here (.cons .here (.cons .here (.cons .here .nil)))) ?_
     obtain rfl := Option.some.inj h
     exact ⟨t21, t22, v_a_x3, rfl, rfl⟩
    ·
     refine wkf ?_
     refine wsr ?_
     refine oV (v_move rfl) ?_
     refine oV (v_nilCheck rfl) ?_
     refine oV (v_fa rfl pt49_0_2 fd49_2) ?_
     refine oV (v_fa rfl pt26_0_4 fd26_4) ?_
     refine oT (t_loadC (R := vecv v_a_x3 (y4.2.m.nodes.length)) ty24 rfl .here isvV1 ?_)
     refine oV (v_vlen sl24 rfl) ?_
     refine oV (v_assign rfl) ?_
     refine rnf ?_
     refine wsr ?_
     refine oV (v_move rfl) ?_
     refine oV (v_move rfl) ?_
     refine oV (v_nilCheck rfl) ?_
     refine oV (v_fa rfl pt49_0_2 fd49_2) ?_
     refine oV (v_fa rfl pt26_0_4 fd26_4) ?_
     refine oT (t_loadC (R := vecv v_a_x3 (y4.2.m.nodes.length)) ty24 rfl .here isvV1 ?_)
     refine oV (v_build (z := (GNode.mk (0 : Int) (Str.mk []) (GMark.mk false (0 : Int) (0 : Int)) (GCon.mk false false false false (0 : Int) (0 : Int)) ([] : (List GItem)) ([] : (List GFld)) (0 : Int) false (0 : Int))) rfl bu83 ze83 .nil) ?_
     refine oT (t_buildSlice (l := ([(GNode.mk (0 : Int) (Str.mk []) (GMark.mk false (0 : Int) (0 : Int)) (GCon.mk false false false false (0 : Int) (0 : Int)) ([] : (List GItem)) ([] : (List GFld)) (0 : Int) false (0 : Int))] : (List GNode))) el24 (.cons rfl (fun _ _ h => h) .nil) rfl rfl ?_)
     refine asr_inv h fun q25 h => ?_
     refine oT (t_vappF (m := ([(GNode.mk (0 : Int) (Str.mk []) (GMark.mk false (0 : Int) (0 : Int)) (GCon.mk false false false false (0 : Int) (0 : Int)) ([] : (List GItem)) ([] : (List GFld)) (0 : Int) false (0 : Int))] : (List GNode))) ap24_24 rfl rfl appv_isv (.there (.there (.there .here))) (by first | rfl | simp) q25 fun v24 => ?_)
     refine oV (v_nilCheck rfl) ?_
     refine oV (v_fa rfl pt49_0_2 fd49_2) ?_
     refine oV (v_fa rfl pt26_0_4 fd26_4) ?_
     refine oT (t_storeC (y' := ((y4.2.l, y4.2.at_, (y4.2.m.name, y4.2.m.tagging, (TList.mk t5 y4.2.m.names), (TList.mk t6 y4.2.m.types), (Vh.mk v24 (y4.2.m.nodes ++ ([(GNode.mk (0 : Int) (Str.mk []) (GMark.mk false (0 : Int) (0 : Int)) (GCon.mk false false false false (0 : Int) (0 : Int)) ([] : (List GItem)) ([] : (List GFld)) (0 : Int) false (0 : Int))] : (List GNode))).length)), y4.2.e, y4.2.p) : ((List GTok) × Int × (Str × Int × (TList Str) × (TList Int) × Vh) × Int × Int))) ty24 rfl rfl isvV2 (.there .here) rfl ?_)
     refine rnf ?_
     refine wsr ?_
     refine oV (v_build (z := (((0 : Int), (Str.mk []), (GMark.mk false (0 : Int) (0 : Int)), (GCon.mk false false false false (0 : Int) (0 : Int)), (TList.mk none ([] : (List GItem))), (TList.mk none ([] : (List GFld))), (0 : Int), false, (0 : Int)) : (Int × Str × GMark × GCon × (TList GItem) × (TList GFld) × Int × Bool × Int))) rfl bu83 zt83_1 .nil) ?_
     refine oT (t_alloc _ zt83_1 fun b26 => ?_)
     refine rl_upd (upd_tok) ?_
     refine rl_upd (upd_tok) ?_
     refine rl_upd (upd_tok) ?_
     refine rl_upd (upd_tok) ?_
     refine oT (t_storeC (y' := (((0 : Int), (Str.mk []), (GMark.mk false (0 : Int) (0 : Int)), (GCon.mk false false false false (0 : Int) (0 : Int)), (TList.mk none ([] : (List GItem))), (TList.mk none ([] : (List GFld))), (0 : Int), false, (0 : Int)) : (Int × Str × GMark × GCon × (TList GItem) × (TList GFld) × Int × Bool × Int))) ty83 rfl rfl (fun _ _ h => h) (.there (.there (.there (.there .here)))) rfl ?_)
     refine rnf ?_
     refine w_seq ?_
     refine wsr ?_
     refine oV (v_move rfl) ?_
     refine cal_inv h fun y31 hy31 h => ?_
     refine oT (t_call (r05_parser_is_w hy31) hT (.same rfl (.same rfl .nil)) (.cons (.there (.there (.there (.there (.there .here))))) (.cons (.there (.there (.there (.there (.there (.there .here)))))) (.cons (.there (.there (.there (.there (.there (.there .here)))))) (.cons (.there (.there (.there (.there (.there .here))))) .nil)))) (fun R H' hR => ?_))
     obtain ⟨t32, t33, rfl, rfl⟩ := hR
     refine rnf ?_
     refine w_J (ι := GPar × GNode) (γ := Tok × Tok × Tok × Tok) (fun q34 g34 => []) (fun q34 g34 => [boxE b_a_x ((q34.1.l, q34.1.at_, (q34.1.m.name, q34.1.m.tagging, (TList.mk g34.1 q34.1.m.names), (TList.mk g34.2.1 q34.1.m.types), (Vh.mk v24 q34.1.m.nodes.length)), q34.1.e, q34.1.p) : ((List GTok) × Int × (Str × Int × (TList Str) × (TList Int) × Vh) × Int × Int)), tokE g34.1, tokE g34.2.1, vecE v24 (q34.1.m.nodes : List GNode), boxE b26 ((q34.2.kind, q34.2.name, q34.2.mark, q34.2.con, (TList.mk g34.2.2.1 q34.2.items), (TList.mk g34.2.2.2 q34.2.fields), q34.2.root, q34.2.more, q34.2.of) : (Int × Str × GMark × GCon × (TList GItem) × (TList GFld) × Int × Bool × Int)), tokE g34.2.2.1, tokE g34.2.2.2]) (.cons .here (.cons (.there (.there (.there .here))) (.cons .here (.cons .here (.cons .here (.cons .here (.cons .here .nil))))))) h (fun q34 g34 h => ?_) (fun J35 h hJ35 => ?_)
     ·
      refine wsr ?_
      refine oV (v_move rfl) ?_
      refine oV (v_move rfl) ?_
      refine cal_inv h fun y63 hy63 h => ?_
      refine oT (t_call (h_r05_parser_base hy63) hT (.same rfl (.same rfl (.same rfl .nil))) (.cons .here (.cons .here (.cons .here (.cons .here (.cons .here (.cons .here (.cons .here .nil))))))) (fun R H' hR => ?_))
      obtain ⟨t64, t65, v66, t67, t68, rfl, rfl⟩ := hR
      refine rnf ?_
      refine w_seq ?_
      refine wsr ?_
      refine oV (v_move rfl) ?_
      refine oV (v_nilCheck rfl) ?_
      refine oV (v_fa rfl pt49_0_3 fd49_3) ?_
      refine oT (t_loadC (R := isv (y63.1.e)) ty27 rfl .here (fun _ _ h => h) ?_)
      refine oV (v_neq rfl rfl) ?_
      refine rnf ?_
      refine w_condM h rfl (fun _ h => ?_) (fun _ h => ?_)
      ·
       refine wsr ?_
       refine oV (v_assign rfl) ?_
       refine rnf ?_
       refine w_ret ?_
       refine ret_nxt ?_
       refine ret_post (.tmp rfl .nil) (.cons .here (.cons .here (.cons .here (.cons .here .nil)))) ?_
       obtain rfl := Option.some.inj h
       exact ⟨t64, t65, v66, rfl, rfl⟩
      ·
       refine wkf ?_
       refine w_seq ?_
       refine w_pinN 6 (.there (.there (.there (.there .here)))) rfl (fun o69 hn70 => ?_)
       refine w_pinN 0 .here rfl (fun o71 hn72 => ?_)
       refine w_regionD (.v 0 (.v 1 (.v 2 (.v 3 (.v 4 (.v 5 (.v 6 (.v 7 (.t 8 .nil))))))))) moOrd (by kernel_rfl) ?_
       refine rd_v rfl (v_move rfl) ?_
       refine rd_v rfl (v_nilCheckP rfl) ?_
       refine rd_v rfl (v_fp rfl pt49_0_2 fd49_2) ?_
       refine rd_v rfl (v_fp rfl pt26_0_4 fd26_4) ?_
       refine rd_v rfl (v_lpC (R := vecv v66 (y63.1.m.nodes.length)) ty24 rfl (List.Mem.head _) isvV1) ?_
       refine rd_v rfl (v_move rfl) ?_
       refine rd_v rfl (v_lpC (R := isv (((y63.2.kind, y63.2.name, y63.2.mark, y63.2.con, (TList.mk t67 y63.2.items), (TList.mk t68 y63.2.fields), y63.2.root, y63.2.more, y63.2.of)) : ((Int × Str × GMark × GCon × (TList GItem) × (TList GFld) × Int × Bool × Int)))) ty83 rfl (List.Mem.tail _ (List.Mem.head _)) (fun _ _ h => h)) ?_
       refine rd_upd (upd_slot (R' := isv (y63.2)) 105 rfl (Cv.isv rfl fun S => (fun cs h => GNode.cv (x := y63.2) cs (((Cv.pair Cv.id (Cv.pair Cv.id (Cv.pair Cv.id (Cv.pair Cv.id (Cv.pair Cv.tl (Cv.pair Cv.tl (Cv.pair Cv.id (Cv.pair Cv.id Cv.id)))))))) : Cv S ((y63.2.kind, y63.2.name, y63.2.mark, y63.2.con, (TList.mk t67 y63.2.items), (TList.mk t68 y63.2.fields), y63.2.root, y63.2.more, y63.2.of) : (Int × Str × GMark × GCon × (TList GItem) × (TList GFld) × Int × Bool × Int)) (GNode.to y63.2)) cs h)))) ?_
       refine asd_inv h fun q73 h => ?_
       refine rd_v rfl (v_vidx (α := GNode) sl24 rfl rfl q73.1 q73.2) ?_
       refine cal_inv h fun y74 hy74 h => ?_
       refine rd_t rfl rfl (t_vstore ty83 rfl rfl (.there (.there .here)) hy74 ?_)
       refine rd_nil ?_
       refine fin_unpinN 0 hn72 rfl ?_
       refine fin_upd (upd_box (y := ((y63.1.l, y63.1.at_, (y63.1.m.name, y63.1.m.tagging, (TList.mk t64 y63.1.m.names), (TList.mk t65 y63.1.m.types), (Vh.mk v66 (y63.1.m.nodes.set (((y4.2.m.nodes.length : Nat) : Int).toNat) y63.2).length)), y63.1.e, y63.1.p) : ((List GTok) × Int × (Str × Int × (TList Str) × (TList Int) × Vh) × Int × Int))) .here (fun S => (Cv.pair Cv.id (Cv.pair Cv.id (Cv.pair (Cv.pair Cv.id (Cv.pair Cv.id (Cv.pair Cv.id (Cv.pair Cv.id (Cv.vhe (by first | rfl | simp)))))) (Cv.pair Cv.id Cv.id)))))) ?_
       refine fin_unpinN 6 hn70 rfl ?_
       refine fin_nxt ?_
       refine wsr ?_
       refine oV (v_move rfl) ?_
       refine oV (v_assign rfl) ?_
       refine rnf ?_
       refine w_ret ?_
       refine ret_post (.tmp rfl .nil) (.cons (.there .here) (.cons (.there (.there .here)) (.cons (.there (.there .here)) (.cons (.there .here) .nil)))) ?_
       obtain rfl := Option.some.inj h
       exact ⟨t64, t65, v66, rfl, rfl⟩
     ·
      refine w_condM h rfl (fun _ h => ?_) (fun _ h => ?_)
      ·
       refine wsr ?_
       refine oV (v_move rfl) ?_
       refine cal_inv h fun y36 hy36 h => ?_
       refine oT (t_call (r05_parser_now_w hy36) hT (.same rfl .nil) (.cons .here (.cons .here (.cons .here (.cons .here .nil)))) (fun R H' hR => ?_))
       obtain ⟨t37, t38, rfl, rfl⟩ := hR
       refine oT (t_alloc _ ze53 fun b39 => ?_)
       refine oT (t_storeC (y' := (y36.1 : GTok)) ty53 rfl rfl (fun _ _ h => h) .here rfl ?_)
       refine rl_upd (upd_imm 7 .here rfl) ?_
       refine rnf ?_
       refine wsr ?_
       refine oV (v_move rfl) ?_
       refine cal_inv h fun y40 hy40 h => ?_
       refine oT (t_call (r05_parser_number_w hy40) hT (.same rfl .nil) (.cons .here (.cons .here (.cons .here (.cons .here .nil)))) (fun R H' hR => ?_))
       obtain ⟨t41, t42, rfl, rfl⟩ := hR
       refine oV (v_assign rfl) ?_
       refine rnf ?_
       refine w_seq ?_
       refine wsr ?_
       refine oV (v_move rfl) ?_
       refine oV (v_nilCheck rfl) ?_
       refine oV (v_fa rfl pt49_0_3 fd49_3) ?_
       refine oT (t_loadC (R := isv (y40.2.e)) ty27 rfl .here (fun _ _ h => h) ?_)
       refine oV (v_eql rfl rfl) ?_
       refine oV (v_move rfl) ?_
       refine rl_j (ι := Bool) (γ := Unit) (fun q43 g43 => [(74, isv (q43))]) (fun q43 g43 => []) .nil h 7 rfl (fun q43 g43 h => ?_) (fun J44 h hJ44 => ?_)
       ·
        refine rnf ?_
        refine w_J (ι := GPar) (γ := Tok × Tok) (fun q49 g49 => []) (fun q49 g49 => [boxE b_a_x ((q49.l, q49.at_, (q49.m.name, q49.m.tagging, (TList.mk g49.1 q49.m.names), (TList.mk g49.2 q49.m.types), (Vh.mk v24 q49.m.nodes.length)), q49.e, q49.p) : ((List GTok) × Int × (Str × Int × (TList Str) × (TList Int) × Vh) × Int × Int)), tokE g49.1, tokE g49.2, vecE v24 (q49.m.nodes : List GNode)]) (.cons .here (.cons .here (.cons .here (.cons .here .nil)))) h (fun q49 g49 h => ?_) (fun J50 h hJ50 => ?_)
        ·
         refine wsr ?_
         refine oV (v_move rfl) ?_
         refine cal_inv h fun y54 hy54 h => ?_
         refine oT (t_call (r05_parser_must_w hy54) hT (.same rfl (.same rfl .nil)) (.cons .here (.cons .here (.cons .here (.cons .here .nil)))) (fun R H' hR => ?_))
         obtain ⟨t55, t56, rfl, rfl⟩ := hR
         refine rnf ?_
         refine wsr ?_
         refine oV (v_move rfl) ?_
         refine oV (v_build (z := (GMark.mk true y40.1 (0 : Int))) rfl bu77 ze77 (.cons GMark.f0 fd77_0 rfl (fun _ _ h => h) (.cons GMark.f1 fd77_1 rfl (fun _ _ h => h) .nil))) ?_
         refine oV (v_fa rfl pt83_0_2 fd83_2) ?_
         refine oT (t_storeC (y' := (((0 : Int), (Str.mk []), (GMark.mk true y40.1 (0 : Int)), (GCon.mk false false false false (0 : Int) (0 : Int)), (TList.mk none ([] : (List GItem))), (TList.mk none ([] : (List GFld))), (0 : Int), false, (0 : Int)) : (Int × Str × GMark × GCon × (TList GItem) × (TList GFld) × Int × Bool × Int))) ty77 rfl rfl (fun _ _ h => h) (.there (.there (.there (.there .here)))) rfl ?_)
         refine rnf ?_
         refine wsr ?_
         refine oV (v_move rfl) ?_
         refine cal_inv h fun y57 hy57 h => ?_
         refine oT (t_call (r05_parser_is_w hy57) hT (.same rfl (.same rfl .nil)) (.cons (.there .here) (.cons (.there .here) (.cons (.there .here) (.cons (.there .here) .nil)))) (fun R H' hR => ?_))
         obtain ⟨t58, t59, rfl, rfl⟩ := hR
         refine rnf ?_
         refine w_condM h rfl (fun _ h => ?_) (fun _ h => ?_)
         ·
          refine w_region ?_
          refine oV (v_fa rfl pt83_0_2 fd83_2) ?_
          refine oV (v_fa rfl GMark.f2 fd77_2) ?_
          refine oT (t_storeC (y' := (((0 : Int), (Str.mk []), (GMark.mk true y40.1 (1 : Int)), (GCon.mk false false false false (0 : Int) (0 : Int)), (TList.mk none ([] : (List GItem))), (TList.mk none ([] : (List GFld))), (0 : Int), false, (0 : Int)) : (Int × Str × GMark × GCon × (TList GItem) × (TList GFld) × Int × Bool × Int))) ty3 rfl rfl (fun _ _ h => h) (.there (.there (.there (.there .here)))) rfl ?_)
          refine rl_nil ?_
          exact hJ35 _ (t58, t59, none, none) h _ (join_imp 23 rfl rfl mod_nil (.cons (.there .here) (.cons (.there .here) (.cons (.there .here) (.cons (.there .here) (.cons .here (.cons (.there .here) (.cons .here (.cons .here (.cons .here .nil))))))))))
         ·
          refine wsr ?_
          refine oV (v_move rfl) ?_
          refine cal_inv h fun y60 hy60 h => ?_
          refine oT (t_call (r05_parser_is_w hy60) hT (.same rfl (.same rfl .nil)) (.cons .here (.cons .here (.cons .here (.cons .here .nil)))) (fun R H' hR => ?_))
          obtain ⟨t61, t62, rfl, rfl⟩ := hR
          refine rnf ?_
          refine w_condM h rfl (fun _ h => ?_) (fun _ h => ?_)
          ·
           refine w_region ?_
           refine oV (v_fa rfl pt83_0_2 fd83_2) ?_
           refine oV (v_fa rfl GMark.f2 fd77_2) ?_
           refine oT (t_storeC (y' := (((0 : Int), (Str.mk []), (GMark.mk true y40.1 (2 : Int)), (GCon.mk false false false false (0 : Int) (0 : Int)), (TList.mk none ([] : (List GItem))), (TList.mk none ([] : (List GFld))), (0 : Int), false, (0 : Int)) : (Int × Str × GMark × GCon × (TList GItem) × (TList GFld) × Int × Bool × Int))) ty3 rfl rfl (fun _ _ h => h) (.there (.there (.there (.there .here)))) rfl ?_)
           refine rl_nil ?_
           exact hJ35 _ (t61, t62, none, none) h _ (join_imp 25 rfl rfl mod_nil (.cons (.there .here) (.cons (.there .here) (.cons (.there .here) (.cons (.there .here) (.cons .here (.cons (.there .here) (.cons .here (.cons .here (.cons .here .nil))))))))))
          ·
           refine w_skip ?_
           exact hJ35 _ (t61, t62, none, none) h _ (join_imp 23 rfl rfl mod_nil (.cons .here (.cons .here (.cons .here (.cons .here (.cons .here (.cons (.there .here) (.cons .here (.cons .here (.cons .here .nil))))))))))
        ·
         refine w_condM h rfl (fun _ h => ?_) (fun _ h => ?_)
         ·
          refine w_region ?_
          refine oV (v_move rfl) ?_
          refine oV (v_loadI ty53 rfl) ?_
          refine cal_inv h fun y51 hy51 h => ?_
          refine oT (t_call (r05_parser_fail_w hy51) hT (.same rfl (.same rfl (.same rfl .nil))) (.cons .here (.cons .here (.cons .here (.cons .here .nil)))) (fun R H' hR => ?_))
          obtain ⟨t52, t53, rfl, rfl⟩ := hR
          refine rl_nil ?_
          exact hJ50 _ (t52, t53) h _ (join_imp 3 rfl rfl mod_nil (.cons .here (.cons .here (.cons .here (.cons .here (.cons .here (.cons .here (.cons .here (.cons .here (.cons .here .nil))))))))))
         ·
          refine w_skip ?_
          exact hJ50 _ (t41, t42) h _ (join_imp 0 rfl rfl mod_nil (.cons .here (.cons .here (.cons .here (.cons .here (.cons .here (.cons .here (.cons .here (.cons .here (.cons .here .nil))))))))))
       ·
        refine rl_condM (j := 67) h rfl (fun g45 h => ?_) (fun g45 h => ?_)
        ·
         refine op_take rfl rfl (dj := 67) rfl g45 (OpV.t (v_move rfl) ?_)
         refine op_take rfl rfl (dj := 67) rfl g45 (OpV.t (v_lss rfl rfl) ?_)
         refine op_take rfl rfl (dj := 67) rfl g45 (OpV.t (v_move rfl) ?_)
         refine rl_j (ι := Bool) (γ := Unit) (fun q46 g46 => [(73, isv (q46))]) (fun q46 g46 => []) .nil h 3 rfl (fun q46 g46 h => ?_) (fun J47 h hJ47 => ?_)
         ·
          refine oV (v_pick_t rfl g45 rfl) ?_
          exact hJ44 _ () h _ (join_imp 5 rfl rfl (mod_cons (j := 74) rfl (fun _ _ h => h) mod_nil) (.cons .here (.cons .here (.cons .here (.cons .here (.cons .here (.cons .here (.cons .here (.cons .here (.cons .here .nil))))))))))
         ·
          refine rl_condM (j := 70) h rfl (fun g48 h => ?_) (fun g48 h => ?_)
          ·
           refine op_pass rfl (dj := 70) rfl g48 ?_
           refine op_pass rfl (dj := 70) rfl g48 ?_
           refine op_take rfl rfl (dj := 67) rfl g45 (OpV.t (v_pick_t rfl g48 rfl) ?_)
           exact hJ47 _ () h _ (join_imp 3 rfl rfl (mod_cons (j := 73) rfl (fun _ _ h => h) mod_nil) (.cons .here (.cons .here (.cons .here (.cons .here (.cons .here (.cons .here (.cons .here (.cons .here (.cons .here .nil))))))))))
          ·
           refine op_take rfl rfl (dj := 70) rfl g48 (OpV.t (v_move rfl) ?_)
           refine op_take rfl rfl (dj := 70) rfl g48 (OpV.t (v_gtr rfl rfl) ?_)
           refine op_take rfl rfl (dj := 67) rfl g45 (OpV.t (v_pick_f rfl g48 rfl) ?_)
           exact hJ47 _ () h _ (join_imp 3 rfl rfl (mod_cons (j := 73) rfl (fun _ _ h => h) mod_nil) (.cons .here (.cons .here (.cons .here (.cons .here (.cons .here (.cons .here (.cons .here (.cons .here (.cons .here .nil))))))))))
        ·
         refine op_pass rfl (dj := 67) rfl g45 ?_
         refine op_pass rfl (dj := 67) rfl g45 ?_
         refine op_pass rfl (dj := 67) rfl g45 ?_
         refine op_passU rfl (dj := 70) rfl ?_
         refine op_passU rfl (dj := 70) rfl ?_
         refine op_pass rfl (dj := 67) rfl g45 ?_
         refine oV (v_pick_f rfl g45 rfl) ?_
         exact hJ44 _ () h _ (join_imp 7 rfl rfl (mod_cons (j := 74) rfl (fun _ _ h => h) mod_nil) (.cons .here (.cons .here (.cons .here (.cons .here (.cons .here (.cons .here (.cons .here (.cons .here (.cons .here .nil))))))))))
      ·
       refine w_skip ?_
       exact hJ35 _ (t32, t33, none, none) h _ (join_imp 0 rfl rfl mod_nil (.cons .here (.cons .here (.cons .here (.cons .here (.cons .here (.cons (.there .here) (.cons .here (.cons .here (.cons .here .nil))))))))))
   ·
    refine rl_condM (j := 24) h rfl (fun g16 h => ?_) (fun g16 h => ?_)
    ·
     refine op_pass rfl (dj := 24) rfl g16 ?_
     refine op_pass rfl (dj := 24) rfl g16 ?_
     refine op_pass rfl (dj := 24) rfl g16 ?_
     refine op_pass rfl (dj := 24) rfl g16 ?_
     refine op_pass rfl (dj := 24) rfl g16 ?_
     refine op_pass rfl (dj := 24) rfl g16 ?_
     refine op_pass rfl (dj := 24) rfl g16 ?_
     refine oV (v_pick_t rfl g16 rfl) ?_
     exact hJ15 _ () h _ (join_imp 8 rfl rfl (mod_cons (j := 32) rfl (fun _ _ h => h) mod_nil) (.cons .here (.cons .here (.cons .here (.cons .here .nil)))))
    ·
     refine op_take rfl rfl (dj := 24) rfl g16 (OpV.t (v_move rfl) ?_)
     refine op_take rfl rfl (dj := 24) rfl g16 (OpV.t (v_nilCheck rfl) ?_)
     refine op_take rfl rfl (dj := 24) rfl g16 (OpV.t (v_fa rfl pt49_0_2 fd49_2) ?_)
     refine op_take rfl rfl (dj := 24) rfl g16 (OpV.t (v_fa rfl pt26_0_4 fd26_4) ?_)
     refine op_take rfl rfl (dj := 24) rfl g16 (t_loadC (R := vecv v_a_x3 (y4.2.m.nodes.length)) ty24 rfl .here isvV1 ?_)
     refine op_take rfl rfl (dj := 24) rfl g16 (OpV.t (v_vlen sl24 rfl) ?_)
     refine op_take rfl rfl (dj := 24) rfl g16 (OpV.t (v_geq rfl rfl) ?_)
     refine oV (v_pick_f rfl g16 rfl) ?_
     exact hJ15 _ () h _ (join_imp 8 rfl rfl (mod_cons (j := 32) rfl (fun _ _ h => h) mod_nil) (.cons .here (.cons .here (.cons .here (.cons .here .nil)))))

theorem r05_parser_base_w0 {r05_parser_field' : GPar → GNode → Int → Int → Option (GPar × GNode)} {r05_parser_typ' : GPar → Int → Option (Int × GPar)} {r05_parser_base' : GPar → GNode → Int → Option (GPar × GNode)} {r05_parser_fields' : GPar → GNode → Int → Option (GPar × GNode)} (h_r05_parser_field : r05_parser_field_C r05_parser_field') (h_r05_parser_typ : r05_parser_typ_C r05_parser_typ') (h_r05_parser_base : r05_parser_base_C r05_parser_base') (h_r05_parser_fields : r05_parser_fields_C r05_parser_fields') : ∀ {a_x : GPar} {a_n_ : GNode} {a_depth : Int} {b_a_x : Nat} {t_a_x1 : Tok} {t_a_x2 : Tok} {v_a_x3 : Vt} {b_a_n_ : Nat} {t_a_n_4 : Tok} {t_a_n_5 : Tok} {r : GPar × GNode}, r05_parser_base_F r05_parser_field' r05_parser_typ' r05_parser_base' r05_parser_fields' a_x a_n_ a_depth = some r → Ctr Tryd.prog 43 [ptrv b_a_x (Fld.id ((List GTok) × Int × (Str × Int × (TList Str) × (TList Int) × Vh) × Int × Int)), ptrv b_a_n_ (Fld.id (Int × Str × GMark × GCon × (TList GItem) × (TList GFld) × Int × Bool × Int)), isv (a_depth)] [boxE b_a_x ((a_x.l, a_x.at_, (a_x.m.name, a_x.m.tagging, (TList.mk t_a_x1 a_x.m.names), (TList.mk t_a_x2 a_x.m.types), (Vh.mk v_a_x3 a_x.m.nodes.length)), a_x.e, a_x.p) : ((List GTok) × Int × (Str × Int × (TList Str) × (TList Int) × Vh) × Int × Int)), tokE t_a_x1, tokE t_a_x2, vecE v_a_x3 (a_x.m.nodes : List GNode), boxE b_a_n_ ((a_n_.kind, a_n_.name, a_n_.mark, a_n_.con, (TList.mk t_a_n_4 a_n_.items), (TList.mk t_a_n_5 a_n_.fields), a_n_.root, a_n_.more, a_n_.of) : (Int × Str × GMark × GCon × (TList GItem) × (TList GFld) × Int × Bool × Int)), tokE t_a_n_4, tokE t_a_n_5] (fun R H => ∃ u1 : Tok, ∃ u2 : Tok, ∃ u3 : Vt, ∃ u4 : Tok, ∃ u5 : Tok, R = oneOf [] ∧ H = [boxE b_a_x ((r.1.l, r.1.at_, (r.1.m.name, r.1.m.tagging, (TList.mk u1 r.1.m.names), (TList.mk u2 r.1.m.types), (Vh.mk u3 r.1.m.nodes.length)), r.1.e, r.1.p)), tokE u1, tokE u2, vecE u3 (r.1.m.nodes), boxE b_a_n_ ((r.2.kind, r.2.name, r.2.mark, r.2.con, (TList.mk u4 r.2.items), (TList.mk u5 r.2.fields), r.2.root, r.2.more, r.2.of)), tokE u4, tokE u5]) := by
 intro a_x a_n_ a_depth b_a_x t_a_x1 t_a_x2 v_a_x3 b_a_n_ t_a_n_4 t_a_n_5 r h
 unfold r05_parser_base_F at h
 refine spec_intro Tryd.func43 rfl (by decide +kernel) (by rfl) fun w0 S0 hT => ?_
 refine wsr ?_
 refine oV (v_move rfl) ?_
 refine cal_inv h fun y6 hy6 h => ?_
 refine oT (t_call (r05_parser_now_w hy6) hT (.same rfl .nil) (.cons .here (.cons .here (.cons .here (.cons .here .nil)))) (fun R H' hR => ?_))
 obtain ⟨t7, t8, rfl, rfl⟩ := hR
 refine oT (t_alloc _ ze53 fun b9 => ?_)
 refine oT (t_storeC (y' := (y6.1 : GTok)) ty53 rfl rfl (fun _ _ h => h) .here rfl ?_)
 refine rl_upd (upd_imm 6 .here rfl) ?_
 refine rnf ?_
 refine w_block ?_
 refine wsr ?_
 refine oV (v_move rfl) ?_
 refine oV (v_nilCheck rfl) ?_
 refine oV (v_fa rfl pt49_0_3 fd49_3) ?_
 refine oT (t_loadC (R := isv (y6.2.e)) ty27 rfl .here (fun _ _ h => h) ?_)
 refine oV (v_neq rfl rfl) ?_
 refine oV (v_assign rfl) ?_
 refine rnf ?_
 refine w_condM h rfl (fun _ h => ?_) (fun _ h => ?_)
 ·
  refine w_skip ?_
  refine fin_block ?_
  refine fin_post .nil (.cons .here (.cons .here (.cons .here (.cons .here (.cons .here (.cons .here (.cons .here .nil))))))) ?_
  obtain rfl := Option.some.inj h
  exact ⟨t7, t8, v_a_x3, t_a_n_4, t_a_n_5, rfl, rfl⟩
 ·
  refine wsr ?_
  refine oV (v_move rfl) ?_
  refine cal_inv h fun y10 hy10 h => ?_
  refine oT (t_call (r05_parser_is_w hy10) hT (.same rfl (.same rfl .nil)) (.cons .here (.cons .here (.cons .here (.cons .here .nil)))) (fun R H' hR => ?_))
  obtain ⟨t11, t12, rfl, rfl⟩ := hR
  refine oV (v_assign rfl) ?_
  refine rnf ?_
  refine w_condM h rfl (fun _ h => ?_) (fun _ h => ?_)
  ·
   refine w_region ?_
   refine oV (v_move rfl) ?_
   refine oV (v_nilCheck rfl) ?_
   refine oV (v_fa rfl pt83_0_0 fd83_0) ?_
   refine oT (t_storeC (y' := (((1 : Int), a_n_.name, a_n_.mark, a_n_.con, (TList.mk t_a_n_4 a_n_.items), (TList.mk t_a_n_5 a_n_.fields), a_n_.root, a_n_.more, a_n_.of) : (Int × Str × GMark × GCon × (TList GItem) × (TList GFld) × Int × Bool × Int))) ty3 rfl rfl (fun _ _ h => h) (.there (.there (.there (.there .here)))) rfl ?_)
   refine rl_nil ?_
   refine fin_block ?_
   refine fin_post .nil (.cons (.there .here) (.cons (.there .here) (.cons (.there .here) (.cons (.there .here) (.cons .here (.cons .here (.cons .here .nil))))))) ?_
   obtain rfl := Option.some.inj h
   exact ⟨t11, t12, v_a_x3, t_a_n_4, t_a_n_5, rfl, rfl⟩
  ·
   refine wsr ?_
   refine oV (v_move rfl) ?_
   refine cal_inv h fun y13 hy13 h => ?_
   refine oT (t_call (r05_parser_is_w hy13) hT (.same rfl (.same rfl .nil)) (.cons .here (.cons .here (.cons .here (.cons .here .nil)))) (fun R H' hR => ?_))
   obtain ⟨t14, t15, rfl, rfl⟩ := hR
   refine oV (v_assign rfl) ?_
   refine rnf ?_
   refine w_condM h rfl (fun _ h => ?_) (fun _ h => ?_)
   ·
    refine w_region ?_
    refine oV (v_move rfl) ?_
    refine oV (v_nilCheck rfl) ?_
    refine oV (v_fa rfl pt83_0_0 fd83_0) ?_
    refine oT (t_storeC (y' := (((4 : Int), a_n_.name, a_n_.mark, a_n_.con, (TList.mk t_a_n_4 a_n_.items), (TList.mk t_a_n_5 a_n_.fields), a_n_.root, a_n_.more, a_n_.of) : (Int × Str × GMark × GCon × (TList GItem) × (TList GFld) × Int × Bool × Int))) ty3 rfl rfl (fun _ _ h => h) (.there (.there (.there (.there .here)))) rfl ?_)
    refine rl_nil ?_
    refine fin_block ?_
    refine fin_post .nil (.cons (.there .here) (.cons (.there .here) (.cons (.there .here) (.cons (.there .here) (.cons .here (.cons .here (.cons .here .nil))))))) ?_
    obtain rfl := Option.some.inj h
    exact ⟨t14, t15, v_a_x3, t_a_n_4, t_a_n_5, rfl, rfl⟩
   ·
    refine wsr ?_
    refine oV (v_move rfl) ?_
    refine cal_inv h fun y16 hy16 h => ?_
    refine oT (t_call (r05_parser_is_w hy16) hT (.same rfl (.same rfl .nil)) (.cons .here (.cons .here (.cons .here (.cons .here .nil)))) (fun R H' hR => ?_))
    obtain ⟨t17, t18, rfl, rfl⟩ := hR
    refine oV (v_assign rfl) ?_
    refine rnf ?_
    refine w_condM h rfl (fun _ h => ?_) (fun _ h => ?_)
    ·
     refine wsr ?_
     refine oV (v_move rfl) ?_
     refine oV (v_nilCheck rfl) ?_
     refine oV (v_fa rfl pt83_0_0 fd83_0) ?_
     refine oT (t_storeC (y' := (((6 : Int), a_n_.name, a_n_.mark, a_n_.con, (TList.mk t_a_n_4 a_n_.items), (TList.mk t_a_n_5 a_n_.fields), a_n_.root, a_n_.more, a_n_.of) : (Int × Str × GMark × GCon × (TList GItem) × (TList GFld) × Int × Bool × Int))) ty3 rfl rfl (fun _ _ h => h) (.there (.there (.there (.there .here)))) rfl ?_)
     refine rnf ?_
     refine w_region ?_
     refine oV (v_move rfl) ?_
     refine oV (v_move rfl) ?_
     refine cal_inv h fun y19 hy19 h => ?_
     refine oT (t_call (r05_parser_size_w hy19) hT (.same rfl .nil) (.cons (.there .here) (.cons (.there .here) (.cons (.there .here) (.cons (.there .here) .nil)))) (fun R H' hR => ?_))
     obtain ⟨t20, t21, rfl, rfl⟩ := hR
     refine oV (v_nilCheck rfl) ?_
     refine oV (v_fa rfl pt83_0_3 fd83_3) ?_
     refine oT (t_storeC (y' := (((6 : Int), a_n_.name, a_n_.mark, y19.1, (TList.mk t_a_n_4 a_n_.items), (TList.mk t_a_n_5 a_n_.fields), a_n_.root, a_n_.more, a_n_.of) : (Int × Str × GMark × GCon × (TList GItem) × (TList GFld) × Int × Bool × Int))) ty79 rfl rfl (fun _ _ h => h) (.there (.there (.there (.there .here)))) rfl ?_)
     refine rl_nil ?_
     refine fin_block ?_
     refine fin_post .nil (.cons (.there .here) (.cons (.there .here) (.cons (.there .here) (.cons (.there .here) (.cons .here (.cons .here (.cons .here .nil))))))) ?_
     obtain rfl := Option.some.inj h
     exact ⟨t20, t21, v_a_x3, t_a_n_4, t_a_n_5, rfl, rfl⟩
    ·
     refine wsr ?_
     refine oV (v_move rfl) ?_
     refine cal_inv h fun y22 hy22 h => ?_
     refine oT (t_call (r05_parser_is_w hy22) hT (.same rfl (.same rfl .nil)) (.cons .here (.cons .here (.cons .here (.cons .here .nil)))) (fun R H' hR => ?_))
     obtain ⟨t23, t24, rfl, rfl⟩ := hR
     refine oV (v_assign rfl) ?_
     refine rnf ?_
     refine w_condM h rfl (fun _ h => ?_) (fun _ h => ?_)
     ·
      refine wsr ?_
      refine oV (v_move rfl) ?_
      refine oV (v_nilCheck rfl) ?_
      refine oV (v_fa rfl pt83_0_0 fd83_0) ?_
      refine oT (t_storeC (y' := (((2 : Int), a_n_.name, a_n_.mark, a_n_.con, (TList.mk t_a_n_4 a_n_.items), (TList.mk t_a_n_5 a_n_.fields), a_n_.root, a_n_.more, a_n_.of) : (Int × Str × GMark × GCon × (TList GItem) × (TList GFld) × Int × Bool × Int))) ty3 rfl rfl (fun _ _ h => h) (.there (.there (.there (.there .here)))) rfl ?_)
      refine rnf ?_
      refine wsr ?_
      refine oV (v_move rfl) ?_
      refine cal_inv h fun y25 hy25 h => ?_
      refine oT (t_call (r05_parser_is_w hy25) hT (.same rfl (.same rfl .nil)) (.cons (.there .here) (.cons (.there .here) (.cons (.there .here) (.cons (.there .here) .nil)))) (fun R H' hR => ?_))
      obtain ⟨t26, t27, rfl, rfl⟩ := hR
      refine rnf ?_
      refine w_condM h rfl (fun _ h => ?_) (fun _ h => ?_)
      ·
       refine wsr ?_
       refine oV (v_move rfl) ?_
       refine oV (v_move rfl) ?_
       refine cal_inv h fun y28 hy28 h => ?_
       refine oT (t_call (r05_parser_bounds_w hy28) hT (.same rfl .nil) (.cons .here (.cons .here (.cons .here (.cons .here .nil)))) (fun R H' hR => ?_))
       obtain ⟨t29, t30, rfl, rfl⟩ := hR
       refine oV (v_nilCheck rfl) ?_
       refine oV (v_fa rfl pt83_0_3 fd83_3) ?_
       refine oT (t_storeC (y' := (((2 : Int), a_n_.name, a_n_.mark, y28.1, (TList.mk t_a_n_4 a_n_.items), (TList.mk t_a_n_5 a_n_.fields), a_n_.root, a_n_.more, a_n_.of) : (Int × Str × GMark × GCon × (TList GItem) × (TList GFld) × Int × Bool × Int))) ty79 rfl rfl (fun _ _ h => h) (.there (.there (.there (.there .here)))) rfl ?_)
       refine rnf ?_
       refine w_region ?_
       refine oV (v_move rfl) ?_
       refine cal_inv h fun y31 hy31 h => ?_
       refine oT (t_call (r05_parser_must_w hy31) hT (.same rfl (.same rfl .nil)) (.cons (.there .here) (.cons (.there .here) (.cons (.there .here) (.cons (.there .here) .nil)))) (fun R H' hR => ?_))
       obtain ⟨t32, t33, rfl, rfl⟩ := hR
       refine rl_nil ?_
       refine fin_block ?_
       refine fin_post .nil (.cons .here (.cons .here (.cons .here (.cons .here (.cons .here (.cons .here (.cons .here .nil))))))) ?_
       obtain rfl := Option.some.inj h
       exact ⟨t32, t33, v_a_x3, t_a_n_4, t_a_n_5, rfl, rfl⟩
      ·
       refine w_skip ?_
       refine fin_block ?_
       refine fin_post .nil (.cons .here (.cons .here (.cons .here (.cons .here (.cons .here (.cons .here (.cons .here .nil))))))) ?_
       obtain rfl := Option.some.inj h
       exact ⟨t26, t27, v_a_x3, t_a_n_4, t_a_n_5, rfl, rfl⟩
     ·
      refine wsr ?_
      refine oV (v_move rfl) ?_
      refine cal_inv h fun y34 hy34 h => ?_
      refine oT (t_call (r05_parser_is_w hy34) hT (.same rfl (.same rfl .nil)) (.cons .here (.cons .here (.cons .here (.cons .here .nil)))) (fun R H' hR => ?_))
      obtain ⟨t35, t36, rfl, rfl⟩ := hR
      refine oV (v_assign rfl) ?_
      refine rnf ?_
      refine w_condM h rfl (fun _ h => ?_) (fun _ h => ?_)
      ·
       refine wsr ?_
       refine oV (v_move rfl) ?_
       refine cal_inv h fun y37 hy37 h => ?_
       refine oT (t_call (r05_parser_must_w hy37) hT (.same rfl (.same rfl .nil)) (.cons .here (.cons .here (.cons .here (.cons .here .nil)))) (fun R H' hR => ?_))
       obtain ⟨t38, t39, rfl, rfl⟩ := hR
       refine rnf ?_
       refine wsr ?_
       refine oV (v_move rfl) ?_
       refine oV (v_nilCheck rfl) ?_
       refine oV (v_fa rfl pt83_0_0 fd83_0) ?_
       refine oT (t_storeC (y' := (((5 : Int), a_n_.name, a_n_.mark, a_n_.con, (TList.mk t_a_n_4 a_n_.items), (TList.mk t_a_n_5 a_n_.fields), a_n_.root, a_n_.more, a_n_.of) : (Int × Str × GMark × GCon × (TList GItem) × (TList GFld) × Int × Bool × Int))) ty3 rfl rfl (fun _ _ h => h) (.there (.there (.there (.there .here)))) rfl ?_)
       refine rnf ?_
       refine w_region ?_
       refine oV (v_move rfl) ?_
       refine oV (v_move rfl) ?_
       refine cal_inv h fun y40 hy40 h => ?_
       refine oT (t_call (r05_parser_size_w hy40) hT (.same rfl .nil) (.cons (.there .here) (.cons (.there .here) (.cons (.there .here) (.cons (.there .here) .nil)))) (fun R H' hR => ?_))
       obtain ⟨t41, t42, rfl, rfl⟩ := hR
       refine oV (v_nilCheck rfl) ?_
       refine oV (v_fa rfl pt83_0_3 fd83_3) ?_
       refine oT (t_storeC (y' := (((5 : Int), a_n_.name, a_n_.mark, y40.1, (TList.mk t_a_n_4 a_n_.items), (TList.mk t_a_n_5 a_n_.fields), a_n_.root, a_n_.more, a_n_.of) : (Int × Str × GMark × GCon × (TList GItem) × (TList GFld) × Int × Bool × Int))) ty79 rfl rfl (fun _ _ h => h) (.there (.there (.there (.there .here)))) rfl ?_)
       refine rl_nil ?_
       refine fin_block ?_
       refine fin_post .nil (.cons (.there .here) (.cons (.there .here) (.cons (.there .here) (.cons (.there .here) (.cons .here (.cons .here (.cons .here .nil))))))) ?_
       obtain rfl := Option.some.inj h
       exact ⟨t41, t42, v_a_x3, t_a_n_4, t_a_n_5, rfl, rfl⟩
      ·
       refine wsr ?_
       refine oV (v_move rfl) ?_
       refine cal_inv h fun y43 hy43 h => ?_
       refine oT (t_call (r05_parser_is_w hy43) hT (.same rfl (.same rfl .nil)) (.cons .here (.cons .here (.cons .here (.cons .here .nil)))) (fun R H' hR => ?_))
       obtain ⟨t44, t45, rfl, rfl⟩ := hR
       refine oV (v_assign rfl) ?_
       refine rnf ?_
       refine w_condM h rfl (fun _ h => ?_) (fun _ h => ?_)
       ·
        refine wsr ?_
        refine oV (v_move rfl) ?_
        refine oV (v_nilCheck rfl) ?_
        refine oV (v_fa rfl pt83_0_0 fd83_0) ?_
        refine oT (t_storeC (y' := (((3 : Int), a_n_.name, a_n_.mark, a_n_.con, (TList.mk t_a_n_4 a_n_.items), (TList.mk t_a_n_5 a_n_.fields), a_n_.root, a_n_.more, a_n_.of) : (Int × Str × GMark × GCon × (TList GItem) × (TList GFld) × Int × Bool × Int))) ty3 rfl rfl (fun _ _ h => h) (.there (.there (.there (.there .here)))) rfl ?_)
        refine rnf ?_
        refine wsr ?_
        refine oV (v_move rfl) ?_
        refine cal_inv h fun y46 hy46 h => ?_
        refine oT (t_call (r05_parser_must_w hy46) hT (.same rfl (.same rfl .nil)) (.cons (.there .here) (.cons (.there .here) (.cons (.there .here) (.cons (.there .here) .nil)))) (fun R H' hR => ?_))
        obtain ⟨t47, t48, rfl, rfl⟩ := hR
        refine rnf ?_
        refine wsr ?_
        refine oV (v_move rfl) ?_
        refine oV (v_move rfl) ?_
        refine cal_inv h fun y49 hy49 h => ?_
        refine oT (t_call (r05_parser_items_w hy49) hT (.same rfl (.same rfl .nil)) (.cons .here (.cons .here (.cons .here (.cons .here (.cons .here (.cons .here (.cons .here .nil))))))) (fun R H' hR => ?_))
        obtain ⟨t50, t51, t52, t53, rfl, rfl⟩ := hR
        refine rnf ?_
        refine w_region ?_
        refine oV (v_move rfl) ?_
        refine cal_inv h fun y54 hy54 h => ?_
        refine oT (t_call (r05_parser_must_w hy54) hT (.same rfl (.same rfl .nil)) (.cons .here (.cons .here (.cons .here (.cons .here .nil)))) (fun R H' hR => ?_))
        obtain ⟨t55, t56, rfl, rfl⟩ := hR
        refine rl_nil ?_
        refine fin_block ?_
        refine fin_post .nil (.cons .here (.cons .here (.cons .here (.cons .here (.cons .here (.cons .here (.cons .here .nil))))))) ?_
        obtain rfl := Option.some.inj h
        exact ⟨t55, t56, v_a_x3, t52, t53, rfl, rfl⟩
       ·
        refine wsr ?_
        refine oV (v_move rfl) ?_
        refine cal_inv h fun y57 hy57 h => ?_
        refine oT (t_call (r05_parser_is_w hy57) hT (.same rfl (.same rfl .nil)) (.cons .here (.cons .here (.cons .here (.cons .here .nil)))) (fun R H' hR => ?_))
        obtain ⟨t58, t59, rfl, rfl⟩ := hR
        refine oV (v_assign rfl) ?_
        refine rnf ?_
        refine w_condM h rfl (fun _ h => ?_) (fun _ h => ?_)
        ·
         refine wsr ?_
         refine oV (v_move rfl) ?_
         refine oV (v_nilCheck rfl) ?_
         refine oV (v_fa rfl pt83_0_0 fd83_0) ?_
         refine oT (t_storeC (y' := (((8 : Int), a_n_.name, a_n_.mark, a_n_.con, (TList.mk t_a_n_4 a_n_.items), (TList.mk t_a_n_5 a_n_.fields), a_n_.root, a_n_.more, a_n_.of) : (Int × Str × GMark × GCon × (TList GItem) × (TList GFld) × Int × Bool × Int))) ty3 rfl rfl (fun _ _ h => h) (.there (.there (.there (.there .here)))) rfl ?_)
         refine rnf ?_
         refine wsr ?_
         refine oV (v_move rfl) ?_
         refine cal_inv h fun y60 hy60 h => ?_
         refine oT (t_call (r05_parser_must_w hy60) hT (.same rfl (.same rfl .nil)) (.cons (.there .here) (.cons (.there .here) (.cons (.there .here) (.cons (.there .here) .nil)))) (fun R H' hR => ?_))
         obtain ⟨t61, t62, rfl, rfl⟩ := hR
         refine rnf ?_
         refine w_region ?_
         refine oV (v_move rfl) ?_
         refine oV (v_move rfl) ?_
         refine oV (v_move rfl) ?_
         refine cal_inv h fun y63 hy63 h => ?_
         refine oT (t_call (h_r05_parser_fields hy63) hT (.same rfl (.same rfl (.same rfl .nil))) (.cons .here (.cons .here (.cons .here (.cons .here (.cons .here (.cons .here (.cons .here .nil))))))) (fun R H' hR => ?_))
         obtain ⟨t64, t65, v66, t67, t68, rfl, rfl⟩ := hR
         refine rl_nil ?_
         refine fin_block ?_
         refine fin_post .nil (.cons .here (.cons .here (.cons .here (.cons .here (.cons .here (.cons .here (.cons .here .nil))))))) ?_
         obtain rfl := Option.some.inj h
         exact ⟨t64, t65, v66, t67, t68, rfl, rfl⟩
        ·
         refine wsr ?_
         refine oV (v_move rfl) ?_
         refine cal_inv h fun y69 hy69 h => ?_
         refine oT (t_call (r05_parser_is_w hy69) hT (.same rfl (.same rfl .nil)) (.cons .here (.cons .here (.cons .here (.cons .here .nil)))) (fun R H' hR => ?_))
         obtain ⟨t70, t71, rfl, rfl⟩ := hR
         refine oV (v_assign rfl) ?_
         refine rnf ?_
         refine w_condM h rfl (fun _ h => ?_) (fun _ h => ?_)
         ·
          refine wsr ?_
          refine oV (v_move rfl) ?_
          refine oV (v_nilCheck rfl) ?_
          refine oV (v_fa rfl pt83_0_0 fd83_0) ?_
          refine oT (t_storeC (y' := (((9 : Int), a_n_.name, a_n_.mark, a_n_.con, (TList.mk t_a_n_4 a_n_.items), (TList.mk t_a_n_5 a_n_.fields), a_n_.root, a_n_.more, a_n_.of) : (Int × Str × GMark × GCon × (TList GItem) × (TList GFld) × Int × Bool × Int))) ty3 rfl rfl (fun _ _ h => h) (.there (.there (.there (.there .here)))) rfl ?_)
          refine rnf ?_
          refine wsr ?_
          refine oV (v_move rfl) ?_
          refine cal_inv h fun y72 hy72 h => ?_
          refine oT (t_call (r05_parser_must_w hy72) hT (.same rfl (.same rfl .nil)) (.cons (.there .here) (.cons (.there .here) (.cons (.there .here) (.cons (.there .here) .nil)))) (fun R H' hR => ?_))
          obtain ⟨t73, t74, rfl, rfl⟩ := hR
          refine rnf ?_
          refine w_region ?_
          refine oV (v_move rfl) ?_
          refine oV (v_move rfl) ?_
          refine oV (v_move rfl) ?_
          refine cal_inv h fun y75 hy75 h => ?_
          refine oT (t_call (h_r05_parser_fields hy75) hT (.same rfl (.same rfl (.same rfl .nil))) (.cons .here (.cons .here (.cons .here (.cons .here (.cons .here (.cons .here (.cons .here .nil))))))) (fun R H' hR => ?_))
          obtain ⟨t76, t77, v78, t79, t80, rfl, rfl⟩ := hR
          refine rl_nil ?_
          refine fin_block ?_
          refine fin_post .nil (.cons .here (.cons .here (.cons .here (.cons .here (.cons .here (.cons .here (.cons .here .nil))))))) ?_
          obtain rfl := Option.some.inj h
          exact ⟨t76, t77, v78, t79, t80, rfl, rfl⟩
         ·
          refine wsr ?_
          refine oV (v_move rfl) ?_
          refine cal_inv h fun y81 hy81 h => ?_
          refine oT (t_call (r05_parser_is_w hy81) hT (.same rfl (.same rfl .nil)) (.cons .here (.cons .here (.cons .here (.cons .here .nil)))) (fun R H' hR => ?_))
          obtain ⟨t82, t83, rfl, rfl⟩ := hR
          refine oV (v_assign rfl) ?_
          refine rnf ?_
          refine w_condM h rfl (fun _ h => ?_) (fun _ h => ?_)
          ·
           refine w_seq ?_
           refine wsr ?_
           refine oV (v_move rfl) ?_
           refine cal_inv h fun y84 hy84 h => ?_
           refine oT (t_call (r05_parser_is_w hy84) hT (.same rfl (.same rfl .nil)) (.cons .here (.cons .here (.cons .here (.cons .here .nil)))) (fun R H' hR => ?_))
           obtain ⟨t85, t86, rfl, rfl⟩ := hR
           refine rnf ?_
           refine w_condM h rfl (fun _ h => ?_) (fun _ h => ?_)
           ·
            refine wsr ?_
            refine oV (v_move rfl) ?_
            refine oV (v_nilCheck rfl) ?_
            refine oV (v_fa rfl pt83_0_0 fd83_0) ?_
            refine oT (t_storeC (y' := (((7 : Int), a_n_.name, a_n_.mark, a_n_.con, (TList.mk t_a_n_4 a_n_.items), (TList.mk t_a_n_5 a_n_.fields), a_n_.root, a_n_.more, a_n_.of) : (Int × Str × GMark × GCon × (TList GItem) × (TList GFld) × Int × Bool × Int))) ty3 rfl rfl (fun _ _ h => h) (.there (.there (.there (.there .here)))) rfl ?_)
            refine rnf ?_
            refine wsr ?_
            refine oV (v_move rfl) ?_
            refine oV (v_move rfl) ?_
            refine oV (v_move rfl) ?_
            refine cal_inv h fun y87 hy87 h => ?_
            refine oT (t_call (h_r05_parser_fields hy87) hT (.same rfl (.same rfl (.same rfl .nil))) (.cons (.there .here) (.cons (.there .here) (.cons (.there .here) (.cons (.there .here) (.cons .here (.cons .here (.cons .here .nil))))))) (fun R H' hR => ?_))
            obtain ⟨t88, t89, v90, t91, t92, rfl, rfl⟩ := hR
            refine rnf ?_
            refine w_ret ?_
            refine ret_nxt ?_
            refine ret_block ?_
            refine ret_post .nil (.cons .here (.cons .here (.cons .here (.cons .here (.cons .here (.cons .here (.cons .here .nil))))))) ?_
            obtain rfl := Option.some.inj h
            exact ⟨t88, t89, v90, t91, t92, rfl, rfl⟩
           ·
            refine wkf ?_
            refine wsr ?_
            refine oV (v_move rfl) ?_
            refine oV (v_nilCheck rfl) ?_
            refine oV (v_fa rfl pt83_0_0 fd83_0) ?_
            refine oT (t_storeC (y' := (((10 : Int), a_n_.name, a_n_.mark, a_n_.con, (TList.mk t_a_n_4 a_n_.items), (TList.mk t_a_n_5 a_n_.fields), a_n_.root, a_n_.more, a_n_.of) : (Int × Str × GMark × GCon × (TList GItem) × (TList GFld) × Int × Bool × Int))) ty3 rfl rfl (fun _ _ h => h) (.there (.there (.there (.there .here)))) rfl ?_)
            refine rnf ?_
            refine wsr ?_
            refine oV (v_move rfl) ?_
            refine oV (v_move rfl) ?_
            refine cal_inv h fun y93 hy93 h => ?_
            refine oT (t_call (r05_parser_size_w hy93) hT (.same rfl .nil) (.cons (.there .here) (.cons (.there .here) (.cons (.there .here) (.cons (.there .here) .nil)))) (fun R H' hR => ?_))
            obtain ⟨t94, t95, rfl, rfl⟩ := hR
            refine oV (v_nilCheck rfl) ?_
            refine oV (v_fa rfl pt83_0_3 fd83_3) ?_
            refine oT (t_storeC (y' := (((10 : Int), a_n_.name, a_n_.mark, y93.1, (TList.mk t_a_n_4 a_n_.items), (TList.mk t_a_n_5 a_n_.fields), a_n_.root, a_n_.more, a_n_.of) : (Int × Str × GMark × GCon × (TList GItem) × (TList GFld) × Int × Bool × Int))) ty79 rfl rfl (fun _ _ h => h) (.there (.there (.there (.there .here)))) rfl ?_)
            refine rnf ?_
            refine wsr ?_
            refine oV (v_move rfl) ?_
            refine cal_inv h fun y96 hy96 h => ?_
            refine oT (t_call (r05_parser_must_w hy96) hT (.same rfl (.same rfl .nil)) (.cons (.there .here) (.cons (.there .here) (.cons (.there .here) (.cons (.there .here) .nil)))) (fun R H' hR => ?_))
            obtain ⟨t97, t98, rfl, rfl⟩ := hR
            refine rnf ?_
            refine w_region ?_
            refine oV (v_move rfl) ?_
            refine oV (v_move rfl) ?_
            refine oV (v_move rfl) ?_
            refine ck_inv h fun q99 h => ?_
            refine oV (v_add rfl rfl q99) ?_
            refine cal_inv h fun y100 hy100 h => ?_
            refine oT (t_call (h_r05_parser_typ hy100) hT (.same rfl (.same rfl .nil)) (.cons .here (.cons .here (.cons .here (.cons .here .nil)))) (fun R H' hR => ?_))
            obtain ⟨t101, t102, v103, rfl, rfl⟩ := hR
            refine oV (v_nilCheck rfl) ?_
            refine oV (v_fa rfl pt83_0_8 fd83_8) ?_
            refine oT (t_storeC (y' := (((10 : Int), a_n_.name, a_n_.mark, y93.1, (TList.mk t_a_n_4 a_n_.items), (TList.mk t_a_n_5 a_n_.fields), a_n_.root, a_n_.more, y100.1) : (Int × Str × GMark × GCon × (TList GItem) × (TList GFld) × Int × Bool × Int))) ty3 rfl rfl (fun _ _ h => h) (.there (.there (.there (.there .here)))) rfl ?_)
            refine rl_nil ?_
            refine fin_block ?_
            refine fin_post .nil (.cons (.there .here) (.cons (.there .here) (.cons (.there .here) (.cons (.there .here) (.cons .here (.cons .here (.cons .here .nil))))))) ?_
            obtain rfl := Option.some.inj h
            exact ⟨t101, t102, v103, t_a_n_4, t_a_n_5, rfl, rfl⟩
          ·
           refine wsr ?_
           refine oV (v_fi rfl GTok.f0 fd53_0 rfl (z := y6.1.kind)) ?_
           refine oV (v_loadI ty3 rfl) ?_
           refine oV (v_eql rfl rfl) ?_
           refine oV (v_assign rfl) ?_
           refine rnf ?_
           refine w_condM h rfl (fun _ h => ?_) (fun _ h => ?_)
           ·
            refine w_seq ?_
            refine w_regionD (.v 0 (.v 1 (.v 2 (.v 3 (.v 4 (.v 5 (.t 6 (.v 7 (.v 8 (.t 9 .nil)))))))))) moOrd (by kernel_rfl) ?_
            refine rd_v rfl (v_move rfl) ?_
            refine rd_v rfl (v_move rfl) ?_
            refine rd_v rfl (v_fi rfl GTok.f1 fd53_1 rfl (z := y6.1.text)) ?_
            refine rd_v rfl (v_loadI ty9 rfl) ?_
            refine rd_v rfl (v_nilCheck rfl) ?_
            refine rd_v rfl (v_fa rfl pt83_0_0 fd83_0) ?_
            refine rd_t rfl rfl (t_storeC (y' := (((11 : Int), a_n_.name, a_n_.mark, a_n_.con, (TList.mk t_a_n_4 a_n_.items), (TList.mk t_a_n_5 a_n_.fields), a_n_.root, a_n_.more, a_n_.of) : (Int × Str × GMark × GCon × (TList GItem) × (TList GFld) × Int × Bool × Int))) ty3 rfl rfl (fun _ _ h => h) (.there (.there (.there (.there .here)))) rfl ?_)
            refine rd_v rfl (v_nilCheck rfl) ?_
            refine rd_v rfl (v_fa rfl pt83_0_1 fd83_1) ?_
            refine rd_t rfl rfl (t_storeC (y' := (((11 : Int), y6.1.text, a_n_.mark, a_n_.con, (TList.mk t_a_n_4 a_n_.items), (TList.mk t_a_n_5 a_n_.fields), a_n_.root, a_n_.more, a_n_.of) : (Int × Str × GMark × GCon × (TList GItem) × (TList GFld) × Int × Bool × Int))) ty9 rfl rfl (fun _ _ h => h) .here rfl ?_)
            refine rd_nil ?_
            refine fin_nxt ?_
            refine w_region ?_
            refine oV (v_move rfl) ?_
            refine cal_inv h fun y104 hy104 h => ?_
            refine oT (t_call (r05_parser_next_w hy104) hT (.same rfl .nil) (.cons (.there .here) (.cons (.there .here) (.cons (.there .here) (.cons (.there .here) .nil)))) (fun R H' hR => ?_))
            obtain ⟨t105, t106, rfl, rfl⟩ := hR
            refine rl_nil ?_
            refine fin_block ?_
            refine fin_post .nil (.cons .here (.cons .here (.cons .here (.cons .here (.cons .here (.cons .here (.cons .here .nil))))))) ?_
            obtain rfl := Option.some.inj h
            exact ⟨t105, t106, v_a_x3, t_a_n_4, t_a_n_5, rfl, rfl⟩
           ·
            refine w_region ?_
            refine oV (v_move rfl) ?_
            refine oV (v_loadI ty53 rfl) ?_
            refine cal_inv h fun y107 hy107 h => ?_
            refine oT (t_call (r05_parser_fail_w hy107) hT (.same rfl (.same rfl (.same rfl .nil))) (.cons .here (.cons .here (.cons .here (.cons .here .nil)))) (fun R H' hR => ?_))
            obtain ⟨t108, t109, rfl, rfl⟩ := hR
            refine rl_nil ?_
            refine fin_block ?_
            refine fin_post .nil (.cons .here (.cons .here (.cons .here (.cons .here (.cons .here (.cons .here (.cons .here .nil))))))) ?_
            obtain rfl := Option.some.inj h
            exact ⟨t108, t109, v_a_x3, t_a_n_4, t_a_n_5, rfl, rfl⟩

theorem r05_parser_fields_w0 {r05_parser_field' : GPar → GNode → Int → Int → Option (GPar × GNode)} {r05_parser_typ' : GPar → Int → Option (Int × GPar)} {r05_parser_base' : GPar → GNode → Int → Option (GPar × GNode)} {r05_parser_fields' : GPar → GNode → Int → Option (GPar × GNode)} (h_r05_parser_field : r05_parser_field_C r05_parser_field') (h_r05_parser_typ : r05_parser_typ_C r05_parser_typ') (h_r05_parser_base : r05_parser_base_C r05_parser_base') (h_r05_parser_fields : r05_parser_fields_C r05_parser_fields') : ∀ {a_x : GPar} {a_n_ : GNode} {a_depth : Int} {b_a_x : Nat} {t_a_x1 : Tok} {t_a_x2 : Tok} {v_a_x3 : Vt} {b_a_n_ : Nat} {t_a_n_4 : Tok} {t_a_n_5 : Tok} {r : GPar × GNode}, r05_parser_fields_F r05_parser_field' r05_parser_typ' r05_parser_base' r05_parser_fields' a_x a_n_ a_depth = some r → Ctr Tryd.prog 64 [ptrv b_a_x (Fld.id ((List GTok) × Int × (Str × Int × (TList Str) × (TList Int) × Vh) × Int × Int)), ptrv b_a_n_ (Fld.id (Int × Str × GMark × GCon × (TList GItem) × (TList GFld) × Int × Bool × Int)), isv (a_depth)] [boxE b_a_x ((a_x.l, a_x.at_, (a_x.m.name, a_x.m.tagging, (TList.mk t_a_x1 a_x.m.names), (TList.mk t_a_x2 a_x.m.types), (Vh.mk v_a_x3 a_x.m.nodes.length)), a_x.e, a_x.p) : ((List GTok) × Int × (Str × Int × (TList Str) × (TList Int) × Vh) × Int × Int)), tokE t_a_x1, tokE t_a_x2, vecE v_a_x3 (a_x.m.nodes : List GNode), boxE b_a_n_ ((a_n_.kind, a_n_.name, a_n_.mark, a_n_.con, (TList.mk t_a_n_4 a_n_.items), (TList.mk t_a_n_5 a_n_.fields), a_n_.root, a_n_.more, a_n_.of) : (Int × Str × GMark × GCon × (TList GItem) × (TList GFld) × Int × Bool × Int)), tokE t_a_n_4, tokE t_a_n_5] (fun R H => ∃ u1 : Tok, ∃ u2 : Tok, ∃ u3 : Vt, ∃ u4 : Tok, ∃ u5 : Tok, R = oneOf [] ∧ H = [boxE b_a_x ((r.1.l, r.1.at_, (r.1.m.name, r.1.m.tagging, (TList.mk u1 r.1.m.names), (TList.mk u2 r.1.m.types), (Vh.mk u3 r.1.m.nodes.length)), r.1.e, r.1.p)), tokE u1, tokE u2, vecE u3 (r.1.m.nodes), boxE b_a_n_ ((r.2.kind, r.2.name, r.2.mark, r.2.con, (TList.mk u4 r.2.items), (TList.mk u5 r.2.fields), r.2.root, r.2.more, r.2.of)), tokE u4, tokE u5]) := by
 intro a_x a_n_ a_depth b_a_x t_a_x1 t_a_x2 v_a_x3 b_a_n_ t_a_n_4 t_a_n_5 r h
 unfold r05_parser_fields_F at h
 refine spec_intro Tryd.func64 rfl (by decide +kernel) (by rfl) fun w0 S0 hT => ?_
 refine w_seq ?_
 refine wsr ?_
 refine oV (v_move rfl) ?_
 refine cal_inv h fun y6 hy6 h => ?_
 refine oT (t_call (r05_parser_is_w hy6) hT (.same rfl (.same rfl .nil)) (.cons .here (.cons .here (.cons .here (.cons .here .nil)))) (fun R H' hR => ?_))
 obtain ⟨t7, t8, rfl, rfl⟩ := hR
 refine rnf ?_
 refine w_condM h rfl (fun _ h => ?_) (fun _ h => ?_)
 ·
  refine w_ret ?_
  refine ret_nxt ?_
  refine ret_post .nil (.cons .here (.cons .here (.cons .here (.cons .here (.cons .here (.cons .here (.cons .here .nil))))))) ?_
  obtain rfl := Option.some.inj h
  exact ⟨t7, t8, v_a_x3, t_a_n_4, t_a_n_5, rfl, rfl⟩
 ·
  refine wkf ?_
  refine wsr ?_
  refine oV (v_assign rfl) ?_
  refine rnf ?_
  refine w_seq ?_
  refine w_J (ι := GPar × GNode) (γ := Tok × Tok × Vt × Tok × Tok) (fun q9 g9 => [(6, anyv)]) (fun q9 g9 => [boxE b_a_x ((q9.1.l, q9.1.at_, (q9.1.m.name, q9.1.m.tagging, (TList.mk g9.1 q9.1.m.names), (TList.mk g9.2.1 q9.1.m.types), (Vh.mk g9.2.2.1 q9.1.m.nodes.length)), q9.1.e, q9.1.p) : ((List GTok) × Int × (Str × Int × (TList Str) × (TList Int) × Vh) × Int × Int)), tokE g9.1, tokE g9.2.1, vecE g9.2.2.1 (q9.1.m.nodes : List GNode), boxE b_a_n_ ((q9.2.kind, q9.2.name, q9.2.mark, q9.2.con, (TList.mk g9.2.2.2.1 q9.2.items), (TList.mk g9.2.2.2.2 q9.2.fields), q9.2.root, q9.2.more, q9.2.of) : (Int × Str × GMark × GCon × (TList GItem) × (TList GFld) × Int × Bool × Int)), tokE g9.2.2.2.1, tokE g9.2.2.2.2]) (.cons .here (.cons (.there (.there (.there .here))) (.cons .here (.cons .here (.cons .here (.cons .here (.cons .here .nil))))))) h (fun q9 g9 h => ?_) (fun J10 h hJ10 => ?_)
  ·
   refine wsr ?_
   refine oV (v_move rfl) ?_
   refine cal_inv h fun y114 hy114 h => ?_
   refine oT (t_call (r05_parser_must_w hy114) hT (.same rfl (.same rfl .nil)) (.cons .here (.cons .here (.cons .here (.cons .here .nil)))) (fun R H' hR => ?_))
   obtain ⟨t115, t116, rfl, rfl⟩ := hR
   refine rnf ?_
   refine wsr ?_
   refine oV (v_move rfl) ?_
   refine oV (v_nilCheck rfl) ?_
   refine oV (v_fa rfl pt83_0_7 fd83_7) ?_
   refine oT (t_loadC (R := isv (q9.2.more)) ty4 rfl (.there (.there (.there (.there .here)))) (fun _ _ h => h) ?_)
   refine oV (v_not rfl) ?_
   refine rnf ?_
   refine w_condM h rfl (fun _ h => ?_) (fun _ h => ?_)
   ·
    refine w_region ?_
    refine oV (v_move rfl) ?_
    refine oV (v_move rfl) ?_
    refine oV (v_nilCheck rfl) ?_
    refine oV (v_fa rfl pt83_0_5 fd83_5) ?_
    refine oT (t_loadC (R := appv g9.2.2.2.2 (q9.2.fields)) ty81 rfl (.there (.there (.there (.there .here)))) isvT1 ?_)
    refine oV (v_ln (l := q9.2.fields) rfl appv_isv sl81) ?_
    refine oV (v_nilCheck rfl) ?_
    refine oV (v_fa rfl pt83_0_6 fd83_6) ?_
    refine oT (t_storeC (y' := ((q9.2.kind, q9.2.name, q9.2.mark, q9.2.con, (TList.mk g9.2.2.2.1 q9.2.items), (TList.mk g9.2.2.2.2 q9.2.fields), (q9.2.fields.length : Int), q9.2.more, q9.2.of) : (Int × Str × GMark × GCon × (TList GItem) × (TList GFld) × Int × Bool × Int))) ty3 rfl rfl (fun _ _ h => h) (.there (.there (.there (.there .here)))) rfl ?_)
    refine rl_nil ?_
    refine fin_post .nil (.cons (.there .here) (.cons (.there .here) (.cons (.there .here) (.cons (.there .here) (.cons .here (.cons .here (.cons .here .nil))))))) ?_
    obtain rfl := Option.some.inj h
    exact ⟨t115, t116, g9.2.2.1, g9.2.2.2.1, g9.2.2.2.2, rfl, rfl⟩
   ·
    refine w_skip ?_
    refine fin_post .nil (.cons .here (.cons .here (.cons .here (.cons .here (.cons .here (.cons .here (.cons .here .nil))))))) ?_
    obtain rfl := Option.some.inj h
    exact ⟨t115, t116, g9.2.2.1, g9.2.2.2.1, g9.2.2.2.2, rfl, rfl⟩
  ·
   refine w_block ?_
   refine w_lp (ι := Int × GPar × GNode) (γ := Tok × Tok × Vt × Tok × Tok) (fun q11 g11 => [(6, isv (q11.1))]) (fun q11 g11 => [boxE b_a_x ((q11.2.1.l, q11.2.1.at_, (q11.2.1.m.name, q11.2.1.m.tagging, (TList.mk g11.1 q11.2.1.m.names), (TList.mk g11.2.1 q11.2.1.m.types), (Vh.mk g11.2.2.1 q11.2.1.m.nodes.length)), q11.2.1.e, q11.2.1.p) : ((List GTok) × Int × (Str × Int × (TList Str) × (TList Int) × Vh) × Int × Int)), tokE g11.1, tokE g11.2.1, vecE g11.2.2.1 (q11.2.1.m.nodes : List GNode), boxE b_a_n_ ((q11.2.2.kind, q11.2.2.name, q11.2.2.mark, q11.2.2.con, (TList.mk g11.2.2.2.1 q11.2.2.items), (TList.mk g11.2.2.2.2 q11.2.2.fields), q11.2.2.root, q11.2.2.more, q11.2.2.of) : (Int × Str × GMark × GCon × (TList GItem) × (TList GFld) × Int × Bool × Int)), tokE g11.2.2.2.1, tokE g11.2.2.2.2]) h (t7, t8, v_a_x3, t_a_n_4, t_a_n_5) (mod_cons (j := 6) rfl (fun _ _ h => h) mod_nil) (.cons .here (.cons .here (.cons .here (.cons .here (.cons .here (.cons .here (.cons .here .nil))))))) (fun L12 q11 g11 Q113 h hL12 eL12 rL12 => ?_)
   refine w_seq ?_
   refine wsr ?_
   refine oV (v_move rfl) ?_
   refine oV (v_nilCheck rfl) ?_
   refine oV (v_fa rfl pt49_0_3 fd49_3) ?_
   refine oT (t_loadC (R := isv (q11.2.1.e)) ty27 rfl .here (fun _ _ h => h) ?_)
   refine oV (v_eql rfl rfl) ?_
   refine rnf ?_
   refine w_condM h rfl (fun _ h => ?_) (fun _ h => ?_)
   ·
    refine wkf ?_
    refine w_block ?_
    refine w_seq ?_
    refine w_J (ι := Int × GPar × GNode) (γ := Tok × Tok × Vt × Tok × Tok) (fun q63 g63 => [(6, isv (q63.1))]) (fun q63 g63 => [boxE b_a_x ((q63.2.1.l, q63.2.1.at_, (q63.2.1.m.name, q63.2.1.m.tagging, (TList.mk g63.1 q63.2.1.m.names), (TList.mk g63.2.1 q63.2.1.m.types), (Vh.mk g63.2.2.1 q63.2.1.m.nodes.length)), q63.2.1.e, q63.2.1.p) : ((List GTok) × Int × (Str × Int × (TList Str) × (TList Int) × Vh) × Int × Int)), tokE g63.1, tokE g63.2.1, vecE g63.2.2.1 (q63.2.1.m.nodes : List GNode), boxE b_a_n_ ((q63.2.2.kind, q63.2.2.name, q63.2.2.mark, q63.2.2.con, (TList.mk g63.2.2.2.1 q63.2.2.items), (TList.mk g63.2.2.2.2 q63.2.2.fields), q63.2.2.root, q63.2.2.more, q63.2.2.of) : (Int × Str × GMark × GCon × (TList GItem) × (TList GFld) × Int × Bool × Int)), tokE g63.2.2.2.1, tokE g63.2.2.2.2]) (.cons .here (.cons (.there (.there (.there .here))) (.cons .here (.cons .here (.cons .here (.cons .here (.cons .here .nil))))))) h (fun q63 g63 h => ?_) (fun J64 h hJ64 => ?_)
    ·
     refine wsr ?_
     refine oV (v_move rfl) ?_
     refine cal_inv h fun y110 hy110 h => ?_
     refine oT (t_call (r05_parser_is_w hy110) hT (.same rfl (.same rfl .nil)) (.cons .here (.cons .here (.cons .here (.cons .here .nil)))) (fun R H' hR => ?_))
     obtain ⟨t111, t112, rfl, rfl⟩ := hR
     refine oV (v_not rfl) ?_
     refine rnf ?_
     refine w_condM h rfl (fun _ h => ?_) (fun _ h => ?_)
     ·
      refine w_exit ?_
      refine exi_pass rfl ?_
      refine eL12 _ _ ?_
      refine exi_block ?_
      exact hJ10 _ (t111, t112, g63.2.2.1, g63.2.2.2.1, g63.2.2.2.2) h _ (join_imp 10 rfl rfl (mod_cons (j := 6) rfl (fun _ _ _ => trivial) mod_nil) (.cons .here (.cons .here (.cons .here (.cons .here (.cons .here (.cons .here (.cons .here .nil))))))))
     ·
      refine w_skip ?_
      refine fin_block ?_
      exact hL12 _ (t111, t112, g63.2.2.1, g63.2.2.2.1, g63.2.2.2.2) h _ (join_imp 10 rfl rfl (mod_cons (j := 6) rfl (fun _ _ h => h) mod_nil) (.cons .here (.cons .here (.cons .here (.cons .here (.cons .here (.cons .here (.cons .here .nil))))))))
    ·
     refine w_block ?_
     refine wsr ?_
     refine oV (v_move rfl) ?_
     refine oV (v_nilCheck rfl) ?_
     refine oV (v_fa rfl pt83_0_7 fd83_7) ?_
     refine oT (t_loadC (R := isv (q11.2.2.more)) ty4 rfl (.there (.there (.there (.there .here)))) (fun _ _ h => h) ?_)
     refine oV (v_not rfl) ?_
     refine oV (v_move rfl) ?_
     refine rl_j (ι := Bool × GPar) (γ := Tok × Tok) (fun q65 g65 => [(27, isv (q65.1))]) (fun q65 g65 => [boxE b_a_x ((q65.2.l, q65.2.at_, (q65.2.m.name, q65.2.m.tagging, (TList.mk g65.1 q65.2.m.names), (TList.mk g65.2 q65.2.m.types), (Vh.mk g11.2.2.1 q65.2.m.nodes.length)), q65.2.e, q65.2.p) : ((List GTok) × Int × (Str × Int × (TList Str) × (TList Int) × Vh) × Int × Int)), tokE g65.1, tokE g65.2, vecE g11.2.2.1 (q65.2.m.nodes : List GNode)]) (.cons .here (.cons .here (.cons .here (.cons .here .nil)))) h 3 rfl (fun q65 g65 h => ?_) (fun J66 h hJ66 => ?_)
     ·
      refine oV (v_assign rfl) ?_
      refine rnf ?_
      refine w_condM h rfl (fun _ h => ?_) (fun _ h => ?_)
      ·
       refine w_region ?_
       refine oV (v_move rfl) ?_
       refine oV (v_move rfl) ?_
       refine oV (v_move rfl) ?_
       refine oV (v_nilCheck rfl) ?_
       refine oV (v_fa rfl pt83_0_5 fd83_5) ?_
       refine oT (t_loadC (R := appv g11.2.2.2.2 (q11.2.2.fields)) ty81 rfl (.there (.there (.there (.there .here)))) isvT1 ?_)
       refine oV (v_ln (l := q11.2.2.fields) rfl appv_isv sl81) ?_
       refine oV (v_nilCheck rfl) ?_
       refine oV (v_fa rfl pt83_0_7 fd83_7) ?_
       refine oT (t_storeC (y' := ((q11.2.2.kind, q11.2.2.name, q11.2.2.mark, q11.2.2.con, (TList.mk g11.2.2.2.1 q11.2.2.items), (TList.mk g11.2.2.2.2 q11.2.2.fields), q11.2.2.root, true, q11.2.2.of) : (Int × Str × GMark × GCon × (TList GItem) × (TList GFld) × Int × Bool × Int))) ty4 rfl rfl (fun _ _ h => h) (.there (.there (.there (.there .here)))) rfl ?_)
       refine oV (v_nilCheck rfl) ?_
       refine oV (v_fa rfl pt83_0_6 fd83_6) ?_
       refine oT (t_storeC (y' := ((q11.2.2.kind, q11.2.2.name, q11.2.2.mark, q11.2.2.con, (TList.mk g11.2.2.2.1 q11.2.2.items), (TList.mk g11.2.2.2.2 q11.2.2.fields), (q11.2.2.fields.length : Int), true, q11.2.2.of) : (Int × Str × GMark × GCon × (TList GItem) × (TList GFld) × Int × Bool × Int))) ty3 rfl rfl (fun _ _ h => h) .here rfl ?_)
       refine rl_nil ?_
       refine fin_block ?_
       exact hJ64 _ (g65.1, g65.2, g11.2.2.1, g11.2.2.2.1, g11.2.2.2.2) h _ (join_imp 19 rfl rfl (mod_cons (j := 6) rfl (fun _ _ h => h) mod_nil) (.cons (.there .here) (.cons (.there .here) (.cons (.there .here) (.cons (.there .here) (.cons .here (.cons .here (.cons .here .nil))))))))
      ·
       refine wsr ?_
       refine oV (v_move rfl) ?_
       refine oV (v_nilCheck rfl) ?_
       refine oV (v_fa rfl pt83_0_7 fd83_7) ?_
       refine oT (t_loadC (R := isv (q11.2.2.more)) ty4 rfl (.there (.there (.there (.there .here)))) (fun _ _ h => h) ?_)
       refine oV (v_move rfl) ?_
       refine rl_j (ι := Bool × GPar) (γ := Tok × Tok) (fun q71 g71 => [(47, isv (q71.1))]) (fun q71 g71 => [boxE b_a_x ((q71.2.l, q71.2.at_, (q71.2.m.name, q71.2.m.tagging, (TList.mk g71.1 q71.2.m.names), (TList.mk g71.2 q71.2.m.types), (Vh.mk g11.2.2.1 q71.2.m.nodes.length)), q71.2.e, q71.2.p) : ((List GTok) × Int × (Str × Int × (TList Str) × (TList Int) × Vh) × Int × Int)), tokE g71.1, tokE g71.2, vecE g11.2.2.1 (q71.2.m.nodes : List GNode)]) (.cons .here (.cons .here (.cons .here (.cons .here .nil)))) h 3 rfl (fun q71 g71 h => ?_) (fun J72 h hJ72 => ?_)
       ·
        refine oV (v_assign rfl) ?_
        refine rnf ?_
        refine w_condM h rfl (fun _ h => ?_) (fun _ h => ?_)
        ·
         refine wsr ?_
         refine oV (v_move rfl) ?_
         refine ck_inv h fun q77 h => ?_
         refine oV (v_add rfl rfl q77) ?_
         refine oV (v_assign rfl) ?_
         refine rnf ?_
         refine w_seq ?_
         refine w_J (ι := GPar × GNode) (γ := Tok × Tok × Vt × Tok × Tok) (fun q78 g78 => []) (fun q78 g78 => [boxE b_a_x ((q78.1.l, q78.1.at_, (q78.1.m.name, q78.1.m.tagging, (TList.mk g78.1 q78.1.m.names), (TList.mk g78.2.1 q78.1.m.types), (Vh.mk g78.2.2.1 q78.1.m.nodes.length)), q78.1.e, q78.1.p) : ((List GTok) × Int × (Str × Int × (TList Str) × (TList Int) × Vh) × Int × Int)), tokE g78.1, tokE g78.2.1, vecE g78.2.2.1 (q78.1.m.nodes : List GNode), boxE b_a_n_ ((q78.2.kind, q78.2.name, q78.2.mark, q78.2.con, (TList.mk g78.2.2.2.1 q78.2.items), (TList.mk g78.2.2.2.2 q78.2.fields), q78.2.root, q78.2.more, q78.2.of) : (Int × Str × GMark × GCon × (TList GItem) × (TList GFld) × Int × Bool × Int)), tokE g78.2.2.2.1, tokE g78.2.2.2.2]) (.cons .here (.cons (.there (.there (.there .here))) (.cons .here (.cons .here (.cons .here (.cons .here (.cons .here .nil))))))) h (fun q78 g78 h => ?_) (fun J79 h hJ79 => ?_)
         ·
          refine w_region ?_
          refine oV (v_move rfl) ?_
          refine cal_inv h fun y101 hy101 h => ?_
          refine oT (t_call (r05_parser_must_w hy101) hT (.same rfl (.same rfl .nil)) (.cons .here (.cons .here (.cons .here (.cons .here .nil)))) (fun R H' hR => ?_))
          obtain ⟨t102, t103, rfl, rfl⟩ := hR
          refine rl_nil ?_
          refine fin_block ?_
          exact hJ64 _ (t102, t103, g78.2.2.1, g78.2.2.2.1, g78.2.2.2.2) h _ (join_imp 20 rfl rfl (mod_cons (j := 6) rfl (fun _ _ h => h) mod_nil) (.cons .here (.cons .here (.cons .here (.cons .here (.cons .here (.cons .here (.cons .here .nil))))))))
         ·
          refine w_block ?_
          refine w_lp (ι := GPar × GNode) (γ := Tok × Tok × Vt × Tok × Tok) (fun q80 g80 => []) (fun q80 g80 => [boxE b_a_x ((q80.1.l, q80.1.at_, (q80.1.m.name, q80.1.m.tagging, (TList.mk g80.1 q80.1.m.names), (TList.mk g80.2.1 q80.1.m.types), (Vh.mk g80.2.2.1 q80.1.m.nodes.length)), q80.1.e, q80.1.p) : ((List GTok) × Int × (Str × Int × (TList Str) × (TList Int) × Vh) × Int × Int)), tokE g80.1, tokE g80.2.1, vecE g80.2.2.1 (q80.1.m.nodes : List GNode), boxE b_a_n_ ((q80.2.kind, q80.2.name, q80.2.mark, q80.2.con, (TList.mk g80.2.2.2.1 q80.2.items), (TList.mk g80.2.2.2.2 q80.2.fields), q80.2.root, q80.2.more, q80.2.of) : (Int × Str × GMark × GCon × (TList GItem) × (TList GFld) × Int × Bool × Int)), tokE g80.2.2.2.1, tokE g80.2.2.2.2]) h (g71.1, g71.2, g11.2.2.1, g11.2.2.2.1, g11.2.2.2.2) mod_nil (.cons .here (.cons .here (.cons .here (.cons .here (.cons .here (.cons .here (.cons .here .nil))))))) (fun L81 q80 g80 Q100 h hL81 eL81 rL81 => ?_)
          refine w_seq ?_
          refine wsr ?_
          refine oV (v_move rfl) ?_
          refine oV (v_nilCheck rfl) ?_
          refine oV (v_fa rfl pt49_0_3 fd49_3) ?_
          refine oT (t_loadC (R := isv (q80.1.e)) ty27 rfl .here (fun _ _ h => h) ?_)
          refine oV (v_eql rfl rfl) ?_
          refine rnf ?_
          refine w_condM h rfl (fun _ h => ?_) (fun _ h => ?_)
          ·
           refine wkf ?_
           refine w_block ?_
           refine wsr ?_
           refine oV (v_move rfl) ?_
           refine oV (v_move rfl) ?_
           refine oV (v_move rfl) ?_
           refine oV (v_move rfl) ?_
           refine cal_inv h fun y91 hy91 h => ?_
           refine oT (t_call (h_r05_parser_field hy91) hT (.same rfl (.same rfl (.same rfl (.same rfl .nil)))) (.cons .here (.cons .here (.cons .here (.cons .here (.cons .here (.cons .here (.cons .here .nil))))))) (fun R H' hR => ?_))
           obtain ⟨t92, t93, v94, t95, t96, rfl, rfl⟩ := hR
           refine rnf ?_
           refine wsr ?_
           refine oV (v_move rfl) ?_
           refine cal_inv h fun y97 hy97 h => ?_
           refine oT (t_call (r05_parser_is_w hy97) hT (.same rfl (.same rfl .nil)) (.cons .here (.cons .here (.cons .here (.cons .here .nil)))) (fun R H' hR => ?_))
           obtain ⟨t98, t99, rfl, rfl⟩ := hR
           refine oV (v_not rfl) ?_
           refine rnf ?_
           refine w_condM h rfl (fun _ h => ?_) (fun _ h => ?_)
           ·
            refine w_exit ?_
            refine exi_pass rfl ?_
            refine eL81 _ _ ?_
            refine exi_block ?_
            exact hJ79 _ (t98, t99, v94, t95, t96) h _ (join_imp 13 rfl rfl mod_nil (.cons .here (.cons .here (.cons .here (.cons .here (.cons .here (.cons .here (.cons .here .nil))))))))
           ·
            refine w_skip ?_
            refine fin_block ?_
            exact hL81 _ (t98, t99, v94, t95, t96) h _ (join_imp 13 rfl rfl mod_nil (.cons .here (.cons .here (.cons .here (.cons .here (.cons .here (.cons .here (.cons .here .nil))))))))
          ·
           refine w_exit ?_
           refine exi_nxt ?_
           refine eL81 _ _ ?_
           refine exi_block ?_
           exact hJ79 _ (g80.1, g80.2.1, g80.2.2.1, g80.2.2.2.1, g80.2.2.2.2) h _ (join_imp 5 rfl rfl mod_nil (.cons .here (.cons .here (.cons .here (.cons .here (.cons .here (.cons .here (.cons .here .nil))))))))
        ·
         refine w_region ?_
         refine oV (v_move rfl) ?_
         refine oV (v_move rfl) ?_
         refine oV (v_move rfl) ?_
         refine cal_inv h fun y104 hy104 h => ?_
         refine oT (t_call (h_r05_parser_field hy104) hT (.same rfl (.same rfl (.same rfl (.same rfl .nil)))) (.cons .here (.cons .here (.cons .here (.cons .here (.cons .here (.cons .here (.cons .here .nil))))))) (fun R H' hR => ?_))
         obtain ⟨t105, t106, v107, t108, t109, rfl, rfl⟩ := hR
         refine rl_nil ?_
         refine fin_block ?_
         exact hJ64 _ (t105, t106, v107, t108, t109) h _ (join_imp 19 rfl rfl (mod_cons (j := 6) rfl (fun _ _ h => h) mod_nil) (.cons .here (.cons .here (.cons .here (.cons .here (.cons .here (.cons .here (.cons .here .nil))))))))
       ·
        refine rl_condM (j := 44) h rfl (fun g73 h => ?_) (fun g73 h => ?_)
        ·
         refine op_take rfl rfl (dj := 44) rfl g73 (OpV.t (v_move rfl) ?_)
         refine cal_inv h fun y74 hy74 h => ?_
         refine op_take rfl rfl (dj := 44) rfl g73 (t_call (r05_parser_is_w hy74) hT (.same rfl (.same rfl .nil)) (.cons .here (.cons .here (.cons .here (.cons .here .nil)))) (fun R H' hR => ?_))
         obtain ⟨t75, t76, rfl, rfl⟩ := hR
         refine oV (v_pick_t rfl g73 rfl) ?_
         exact hJ72 _ (t75, t76) h _ (join_imp 3 rfl rfl (mod_cons (j := 47) rfl (fun _ _ h => h) mod_nil) (.cons .here (.cons .here (.cons .here (.cons .here (.cons .here (.cons .here (.cons .here .nil))))))))
        ·
         refine op_pass rfl (dj := 44) rfl g73 ?_
         refine op_pass rfl (dj := 44) rfl g73 ?_
         refine oV (v_pick_f rfl g73 rfl) ?_
         exact hJ72 _ (g65.1, g65.2) h _ (join_imp 3 rfl rfl (mod_cons (j := 47) rfl (fun _ _ h => h) mod_nil) (.cons .here (.cons .here (.cons .here (.cons .here (.cons .here (.cons .here (.cons .here .nil))))))))
     ·
      refine rl_condM (j := 24) h rfl (fun g67 h => ?_) (fun g67 h => ?_)
      ·
       refine op_take rfl rfl (dj := 24) rfl g67 (OpV.t (v_move rfl) ?_)
       refine cal_inv h fun y68 hy68 h => ?_
       refine op_take rfl rfl (dj := 24) rfl g67 (t_call (r05_parser_is_w hy68) hT (.same rfl (.same rfl .nil)) (.cons .here (.cons .here (.cons .here (.cons .here .nil)))) (fun R H' hR => ?_))
       obtain ⟨t69, t70, rfl, rfl⟩ := hR
       refine oV (v_pick_t rfl g67 rfl) ?_
       exact hJ66 _ (t69, t70) h _ (join_imp 3 rfl rfl (mod_cons (j := 27) rfl (fun _ _ h => h) mod_nil) (.cons .here (.cons .here (.cons .here (.cons .here (.cons .here (.cons .here (.cons .here .nil))))))))
      ·
       refine op_pass rfl (dj := 24) rfl g67 ?_
       refine op_pass rfl (dj := 24) rfl g67 ?_
       refine oV (v_pick_f rfl g67 rfl) ?_
       exact hJ66 _ (g11.1, g11.2.1) h _ (join_imp 3 rfl rfl (mod_cons (j := 27) rfl (fun _ _ h => h) mod_nil) (.cons .here (.cons .here (.cons .here (.cons .here (.cons .here (.cons .here (.cons .here .nil))))))))
   ·
    refine w_exit ?_
    refine exi_nxt ?_
    refine eL12 _ _ ?_
    refine exi_block ?_
    exact hJ10 _ (g11.1, g11.2.1, g11.2.2.1, g11.2.2.2.1, g11.2.2.2.2) h _ (join_imp 6 rfl rfl (mod_cons (j := 6) rfl (fun _ _ _ => trivial) mod_nil) (.cons .here (.cons .here (.cons .here (.cons .here (.cons .here (.cons .here (.cons .here .nil))))))))

theorem r05_parser_field_grp_w : ∀ n, r05_parser_field_C (r05_parser_field n) ∧ r05_parser_typ_C (r05_parser_typ n) ∧ r05_parser_base_C (r05_parser_base n) ∧ r05_parser_fields_C (r05_parser_fields n)
 | 0 => ⟨fun h => (by cases h), fun h => (by cases h), fun h => (by cases h), fun h => (by cases h)⟩
 | n + 1 => by
  obtain ⟨h0, h1, h2, h3⟩ := r05_parser_field_grp_w n
  exact ⟨r05_parser_field_w0 h0 h1 h2 h3, r05_parser_typ_w0 h0 h1 h2 h3, r05_parser_base_w0 h0 h1 h2 h3, r05_parser_fields_w0 h0 h1 h2 h3⟩
theorem r05_parser_field_w (n : Nat) : r05_parser_field_C (r05_parser_field n) := (r05_parser_field_grp_w n).1
theorem r05_parser_typ_w (n : Nat) : r05_parser_typ_C (r05_parser_typ n) := (r05_parser_field_grp_w n).2.1
theorem r05_parser_base_w (n : Nat) : r05_parser_base_C (r05_parser_base n) := (r05_parser_field_grp_w n).2.2.1
theorem r05_parser_fields_w (n : Nat) : r05_parser_fields_C (r05_parser_fields n) := (r05_parser_field_grp_w n).2.2.2
end Go.Proofs.YtdcdndflfhaejaaDoor


namespace Go.Proofs.YtdcdndflfhaejaaDoor
open Go.Sy
set_option maxRecDepth 4000
theorem r05_Parse_w : ∀ {a_text : Str} {r : GMod × Int × Int}, r05_Parse a_text = some r → Ctr Tryd.prog 8 [isv (a_text)] [] (fun R H => R = oneOf [isv (r.1), isv (r.2.1), isv (r.2.2)] ∧ H = []) := by
 intro a_text r h
 unfold r05_Parse at h
 refine spec_intro Tryd.func8 rfl (by decide +kernel) (by rfl) fun w0 S0 hT => ?_
 refine wsr ?_
 refine oT (t_alloc _ ze26 fun b1 => ?_)
 refine oV (v_assign rfl) ?_
 refine oV (v_assign rfl) ?_
 refine rnf ?_
 refine wsr ?_
 refine oV (v_move rfl) ?_
 refine cal_inv h fun y2 hy2 h => ?_
 refine oT (t_call (r04_Tokens_w hy2) hT (.same rfl .nil) .nil (fun R H' hR => ?_))
 obtain ⟨rfl, rfl⟩ := hR
 refine oV (v_move rfl) ?_
 refine oV (v_extract rfl rfl) ?_
 refine oV (v_extract rfl rfl) ?_
 refine oV (v_extract rfl rfl) ?_
 refine oV (v_assign rfl) ?_
 refine oV (v_assign rfl) ?_
 refine oV (v_assign rfl) ?_
 refine rnf ?_
 refine w_seq ?_
 refine wsr ?_
 refine oV (v_move rfl) ?_
 refine oV (v_neq rfl rfl) ?_
 refine rnf ?_
 refine w_condM h rfl (fun _ h => ?_) (fun _ h => ?_)
 ·
  refine wsr ?_
  refine oV (v_build (z := (GMod.mk (Str.mk []) (0 : Int) ([] : (List Str)) ([] : (List Int)) ([] : (List GNode)))) rfl bu26 ze26 .nil) ?_
  refine oV (v_move rfl) ?_
  refine oV (v_move rfl) ?_
  refine oT (t_storeC (y' := ((GMod.mk (Str.mk []) (0 : Int) ([] : (List Str)) ([] : (List Int)) ([] : (List GNode))) : GMod)) ty26 rfl rfl (fun _ _ h => h) .here rfl ?_)
  refine oV (v_assign rfl) ?_
  refine oV (v_assign rfl) ?_
  refine rnf ?_
  refine w_ret ?_
  refine ret_nxt ?_
  refine ret_post (.cell rfl .here ty26 (.tmp rfl (.tmp rfl .nil))) .nil ?_
  obtain rfl := Option.some.inj h
  exact ⟨rfl, rfl⟩
 ·
  refine wkf ?_
  refine wsr ?_
  refine oV (v_move rfl) ?_
  refine oV (v_build (z := ((y2.1, (0 : Int), ((Str.mk []), (0 : Int), (TList.mk none ([] : (List Str))), (TList.mk none ([] : (List Int))), (Vh.mk none 0)), (0 : Int), (0 : Int)) : ((List GTok) × Int × (Str × Int × (TList Str) × (TList Int) × Vh) × Int × Int))) rfl bu49 zt49_0 (.cons pt49_0_0 fd49_0 rfl (fun _ _ h => h) .nil)) ?_
  refine oT (t_boxC (y := ((y2.1, (0 : Int), ((Str.mk []), (0 : Int), (TList.mk none ([] : (List Str))), (TList.mk none ([] : (List Int))), (Vh.mk none 0)), (0 : Int), (0 : Int)) : ((List GTok) × Int × (Str × Int × (TList Str) × (TList Int) × Vh) × Int × Int))) rfl (fun _ _ h => h) fun b3 => ?_)
  refine rl_upd (upd_tok) ?_
  refine rl_upd (upd_tok) ?_
  refine rl_upd (upd_vec (α := GNode)) ?_
  refine oV (v_assign rfl) ?_
  refine rnf ?_
  refine wsr ?_
  refine oV (v_move rfl) ?_
  refine oV (v_move rfl) ?_
  refine cal_inv h fun y7 hy7 h => ?_
  refine oT (t_call (r05_parser_kind_w hy7) hT (.same rfl (.same rfl .nil)) (.cons (.there (.there (.there .here))) (.cons (.there (.there .here)) (.cons (.there .here) (.cons .here .nil)))) (fun R H' hR => ?_))
  obtain ⟨t8, t9, rfl, rfl⟩ := hR
  refine oV (v_nilCheck rfl) ?_
  refine oV (v_fa rfl pt49_0_2 fd49_2) ?_
  refine oV (v_fa rfl pt26_0_0 fd26_0) ?_
  refine oT (t_storeC (y' := ((y7.2.l, y7.2.at_, (y7.1, y7.2.m.tagging, (TList.mk t8 y7.2.m.names), (TList.mk t9 y7.2.m.types), (Vh.mk none y7.2.m.nodes.length)), y7.2.e, y7.2.p) : ((List GTok) × Int × (Str × Int × (TList Str) × (TList Int) × Vh) × Int × Int))) ty9 rfl rfl (fun _ _ h => h) .here rfl ?_)
  refine rnf ?_
  refine wsr ?_
  refine oV (v_move rfl) ?_
  refine cal_inv h fun y10 hy10 h => ?_
  refine oT (t_call (r05_parser_must_w hy10) hT (.same rfl (.same rfl .nil)) (.cons .here (.cons .here (.cons .here (.cons .here .nil)))) (fun R H' hR => ?_))
  obtain ⟨t11, t12, rfl, rfl⟩ := hR
  refine rnf ?_
  refine w_seq ?_
  refine w_J (ι := GPar) (γ := Tok × Tok) (fun q13 g13 => []) (fun q13 g13 => [boxE b3 ((q13.l, q13.at_, (q13.m.name, q13.m.tagging, (TList.mk g13.1 q13.m.names), (TList.mk g13.2 q13.m.types), (Vh.mk none q13.m.nodes.length)), q13.e, q13.p) : ((List GTok) × Int × (Str × Int × (TList Str) × (TList Int) × Vh) × Int × Int)), tokE g13.1, tokE g13.2, vecE none (q13.m.nodes : List GNode)]) (.cons .here (.cons .here (.cons .here (.cons .here .nil)))) h (fun q13 g13 h => ?_) (fun J14 h hJ14 => ?_)
  ·
   refine wsr ?_
   refine oV (v_move rfl) ?_
   refine cal_inv h fun y33 hy33 h => ?_
   refine oT (t_call (r05_parser_must_w hy33) hT (.same rfl (.same rfl .nil)) (.cons .here (.cons .here (.cons .here (.cons .here .nil)))) (fun R H' hR => ?_))
   obtain ⟨t34, t35, rfl, rfl⟩ := hR
   refine rnf ?_
   refine wsr ?_
   refine oV (v_move rfl) ?_
   refine cal_inv h fun y36 hy36 h => ?_
   refine oT (t_call (r05_parser_must_w hy36) hT (.same rfl (.same rfl .nil)) (.cons .here (.cons .here (.cons .here (.cons .here .nil)))) (fun R H' hR => ?_))
   obtain ⟨t37, t38, rfl, rfl⟩ := hR
   refine rnf ?_
   refine w_seq ?_
   refine w_block ?_
   refine w_lp (ι := GPar) (γ := Tok × Tok × Vt) (fun q39 g39 => []) (fun q39 g39 => [boxE b3 ((q39.l, q39.at_, (q39.m.name, q39.m.tagging, (TList.mk g39.1 q39.m.names), (TList.mk g39.2.1 q39.m.types), (Vh.mk g39.2.2 q39.m.nodes.length)), q39.e, q39.p) : ((List GTok) × Int × (Str × Int × (TList Str) × (TList Int) × Vh) × Int × Int)), tokE g39.1, tokE g39.2.1, vecE g39.2.2 (q39.m.nodes : List GNode)]) h (t37, t38, none) mod_nil (.cons .here (.cons .here (.cons .here (.cons .here .nil)))) (fun L40 q39 g39 Q141 h hL40 eL40 rL40 => ?_)
   refine w_seq ?_
   refine wsr ?_
   refine oV (v_move rfl) ?_
   refine oV (v_nilCheck rfl) ?_
   refine oV (v_fa rfl pt49_0_3 fd49_3) ?_
   refine oT (t_loadC (R := isv (q39.e)) ty27 rfl .here (fun _ _ h => h) ?_)
   refine oV (v_eql rfl rfl) ?_
   refine oV (v_move rfl) ?_
   refine rl_j (ι := Bool × GPar) (γ := Tok × Tok) (fun q91 g91 => [(70, isv (q91.1))]) (fun q91 g91 => [boxE b3 ((q91.2.l, q91.2.at_, (q91.2.m.name, q91.2.m.tagging, (TList.mk g91.1 q91.2.m.names), (TList.mk g91.2 q91.2.m.types), (Vh.mk g39.2.2 q91.2.m.nodes.length)), q91.2.e, q91.2.p) : ((List GTok) × Int × (Str × Int × (TList Str) × (TList Int) × Vh) × Int × Int)), tokE g91.1, tokE g91.2, vecE g39.2.2 (q91.2.m.nodes : List GNode)]) (.cons .here (.cons .here (.cons .here (.cons .here .nil)))) h 4 rfl (fun q91 g91 h => ?_) (fun J92 h hJ92 => ?_)
   ·
    refine rnf ?_
    refine w_condM h rfl (fun _ h => ?_) (fun _ h => ?_)
    ·
     refine wkf ?_
     refine w_block ?_
     refine wsr ?_
     refine oV (v_move rfl) ?_
     refine cal_inv h fun y97 hy97 h => ?_
     refine oT (t_call (r05_parser_now_w hy97) hT (.same rfl .nil) (.cons .here (.cons .here (.cons .here (.cons .here .nil)))) (fun R H' hR => ?_))
     obtain ⟨t98, t99, rfl, rfl⟩ := hR
     refine oT (t_alloc _ ze53 fun b100 => ?_)
     refine oT (t_storeC (y' := (y97.1 : GTok)) ty53 rfl rfl (fun _ _ h => h) .here rfl ?_)
     refine rl_upd (upd_imm 9 .here rfl) ?_
     refine rnf ?_
     refine wsr ?_
     refine oV (v_move rfl) ?_
     refine cal_inv h fun y101 hy101 h => ?_
     refine oT (t_call (r05_parser_kind_w hy101) hT (.same rfl (.same rfl .nil)) (.cons .here (.cons .here (.cons .here (.cons .here .nil)))) (fun R H' hR => ?_))
     obtain ⟨t102, t103, rfl, rfl⟩ := hR
     refine oV (v_assign rfl) ?_
     refine rnf ?_
     refine w_seq ?_
     refine wsr ?_
     refine oV (v_move rfl) ?_
     refine oV (v_nilCheck rfl) ?_
     refine oV (v_fa rfl pt49_0_3 fd49_3) ?_
     refine oT (t_loadC (R := isv (y101.2.e)) ty27 rfl .here (fun _ _ h => h) ?_)
     refine oV (v_eql rfl rfl) ?_
     refine oV (v_move rfl) ?_
     refine rl_j (ι := Bool) (γ := Unit) (fun q104 g104 => [(88, isv (q104))]) (fun q104 g104 => []) .nil h 8 rfl (fun q104 g104 h => ?_) (fun J105 h hJ105 => ?_)
     ·
      refine rnf ?_
      refine w_J (ι := GPar) (γ := Tok × Tok) (fun q107 g107 => []) (fun q107 g107 => [boxE b3 ((q107.l, q107.at_, (q107.m.name, q107.m.tagging, (TList.mk g107.1 q107.m.names), (TList.mk g107.2 q107.m.types), (Vh.mk g39.2.2 q107.m.nodes.length)), q107.e, q107.p) : ((List GTok) × Int × (Str × Int × (TList Str) × (TList Int) × Vh) × Int × Int)), tokE g107.1, tokE g107.2, vecE g39.2.2 (q107.m.nodes : List GNode)]) (.cons .here (.cons .here (.cons .here (.cons .here .nil)))) h (fun q107 g107 h => ?_) (fun J108 h hJ108 => ?_)
      ·
       refine wsr ?_
       refine oV (v_move rfl) ?_
       refine cal_inv h fun y112 hy112 h => ?_
       refine oT (t_call (r05_parser_must_w hy112) hT (.same rfl (.same rfl .nil)) (.cons .here (.cons .here (.cons .here (.cons .here .nil)))) (fun R H' hR => ?_))
       obtain ⟨t113, t114, rfl, rfl⟩ := hR
       refine rnf ?_
       refine wsr ?_
       refine oV (v_move rfl) ?_
       refine cal_inv h fun y115 hy115 h => ?_
       refine oT (t_call (r05_parser_typ_w fuel hy115) hT (.same rfl (.same rfl .nil)) (.cons .here (.cons .here (.cons .here (.cons .here .nil)))) (fun R H' hR => ?_))
       obtain ⟨t116, t117, v118, rfl, rfl⟩ := hR
       refine oV (v_assign rfl) ?_
       refine rnf ?_
       refine wsr ?_
       refine oV (v_move rfl) ?_
       refine oV (v_move rfl) ?_
       refine oV (v_nilCheck rfl) ?_
       refine oV (v_fa rfl pt49_0_2 fd49_2) ?_
       refine oV (v_fa rfl pt26_0_2 fd26_2) ?_
       refine oT (t_loadC (R := appv t116 (y115.2.m.names)) ty22 rfl .here isvT1 ?_)
       refine oV (v_move rfl) ?_
       refine oT (t_buildSlice (l := ([y101.1] : (List Str))) el22 (.cons rfl (fun _ _ h => h) .nil) rfl rfl ?_)
       refine asr_inv h fun q121 h => ?_
       refine oT (t_appC (l := y115.2.m.names) (m := ([y101.1] : (List Str))) ap22_22 rfl (fun _ _ h => h) rfl appv_isv (.there .here) q121 fun t120 => ?_)
       refine oV (v_nilCheck rfl) ?_
       refine oV (v_fa rfl pt49_0_2 fd49_2) ?_
       refine oV (v_fa rfl pt26_0_2 fd26_2) ?_
       refine oT (t_storeC (y' := ((y115.2.l, y115.2.at_, (y115.2.m.name, y115.2.m.tagging, (TList.mk t120 (y115.2.m.names ++ ([y101.1] : (List Str)))), (TList.mk t117 y115.2.m.types), (Vh.mk v118 y115.2.m.nodes.length)), y115.2.e, y115.2.p) : ((List GTok) × Int × (Str × Int × (TList Str) × (TList Int) × Vh) × Int × Int))) ty22 rfl rfl isvT2 (.there .here) rfl ?_)
       refine rnf ?_
       refine w_region ?_
       refine oV (v_move rfl) ?_
       refine oV (v_move rfl) ?_
       refine oV (v_nilCheck rfl) ?_
       refine oV (v_fa rfl pt49_0_2 fd49_2) ?_
       refine oV (v_fa rfl pt26_0_3 fd26_3) ?_
       refine oT (t_loadC (R := appv t117 (y115.2.m.types)) ty23 rfl .here isvT1 ?_)
       refine oV (v_move rfl) ?_
       refine oT (t_buildSlice (l := ([y115.1] : (List Int))) el23 (.cons rfl (fun _ _ h => h) .nil) rfl rfl ?_)
       refine asr_inv h fun q124 h => ?_
       refine oT (t_appC (l := y115.2.m.types) (m := ([y115.1] : (List Int))) ap23_23 rfl (fun _ _ h => h) rfl appv_isv (.there (.there .here)) q124 fun t123 => ?_)
       refine oV (v_nilCheck rfl) ?_
       refine oV (v_fa rfl pt49_0_2 fd49_2) ?_
       refine oV (v_fa rfl pt26_0_3 fd26_3) ?_
       refine oT (t_storeC (y' := ((y115.2.l, y115.2.at_, (y115.2.m.name, y115.2.m.tagging, (TList.mk t120 (y115.2.m.names ++ ([y101.1] : (List Str)))), (TList.mk t123 (y115.2.m.types ++ ([y115.1] : (List Int)))), (Vh.mk v118 y115.2.m.nodes.length)), y115.2.e, y115.2.p) : ((List GTok) × Int × (Str × Int × (TList Str) × (TList Int) × Vh) × Int × Int))) ty23 rfl rfl isvT2 (.there .here) rfl ?_)
       refine rl_nil ?_
       refine fin_block ?_
       exact hL40 _ (t120, t123, v118) h _ (join_imp 50 rfl rfl mod_nil (.cons .here (.cons (.there .here) (.cons .here (.cons .here (.cons .here .nil))))))
      ·
       refine w_condM h rfl (fun _ h => ?_) (fun _ h => ?_)
       ·
        refine w_region ?_
        refine oV (v_move rfl) ?_
        refine oV (v_loadI ty53 rfl) ?_
        refine cal_inv h fun y109 hy109 h => ?_
        refine oT (t_call (r05_parser_fail_w hy109) hT (.same rfl (.same rfl (.same rfl .nil))) (.cons .here (.cons .here (.cons .here (.cons .here .nil)))) (fun R H' hR => ?_))
        obtain ⟨t110, t111, rfl, rfl⟩ := hR
        refine rl_nil ?_
        exact hJ108 _ (t110, t111) h _ (join_imp 3 rfl rfl mod_nil (.cons .here (.cons .here (.cons .here (.cons .here (.cons .here .nil))))))
       ·
        refine w_skip ?_
        exact hJ108 _ (t102, t103) h _ (join_imp 0 rfl rfl mod_nil (.cons .here (.cons .here (.cons .here (.cons .here (.cons .here .nil))))))
     ·
      refine rl_condM (j := 80) h rfl (fun g106 h => ?_) (fun g106 h => ?_)
      ·
       refine op_take rfl rfl (dj := 80) rfl g106 (OpV.t (v_move rfl) ?_)
       refine op_take rfl rfl (dj := 80) rfl g106 (OpV.t (v_nilCheck rfl) ?_)
       refine op_take rfl rfl (dj := 80) rfl g106 (OpV.t (v_fa rfl pt49_0_2 fd49_2) ?_)
       refine op_take rfl rfl (dj := 80) rfl g106 (OpV.t (v_fa rfl pt26_0_2 fd26_2) ?_)
       refine op_take rfl rfl (dj := 80) rfl g106 (t_loadC (R := appv t102 (y101.2.m.names)) ty22 rfl .here isvT1 ?_)
       refine op_take rfl rfl (dj := 80) rfl g106 (OpV.t (v_ln (l := y101.2.m.names) rfl appv_isv sl22) ?_)
       refine op_take rfl rfl (dj := 80) rfl g106 (OpV.t (v_geq rfl rfl) ?_)
       refine oV (v_pick_t rfl g106 rfl) ?_
       exact hJ105 _ () h _ (join_imp 8 rfl rfl (mod_cons (j := 88) rfl (fun _ _ h => h) mod_nil) (.cons .here (.cons .here (.cons .here (.cons .here (.cons .here .nil))))))
      ·
       refine op_pass rfl (dj := 80) rfl g106 ?_
       refine op_pass rfl (dj := 80) rfl g106 ?_
       refine op_pass rfl (dj := 80) rfl g106 ?_
       refine op_pass rfl (dj := 80) rfl g106 ?_
       refine op_pass rfl (dj := 80) rfl g106 ?_
       refine op_pass rfl (dj := 80) rfl g106 ?_
       refine op_pass rfl (dj := 80) rfl g106 ?_
       refine oV (v_pick_f rfl g106 rfl) ?_
       exact hJ105 _ () h _ (join_imp 8 rfl rfl (mod_cons (j := 88) rfl (fun _ _ h => h) mod_nil) (.cons .here (.cons .here (.cons .here (.cons .here (.cons .here .nil))))))
    ·
     refine w_exit ?_
     refine exi_nxt ?_
     refine eL40 _ _ ?_
     refine exi_block ?_
     refine fin_nxt ?_
     refine w_seq ?_
     refine wsr ?_
     refine oV (v_move rfl) ?_
     refine oV (v_nilCheck rfl) ?_
     refine oV (v_fa rfl pt49_0_3 fd49_3) ?_
     refine oT (t_loadC (R := isv (q91.2.e)) ty27 rfl .here (fun _ _ h => h) ?_)
     refine oV (v_eql rfl rfl) ?_
     refine oV (v_move rfl) ?_
     refine rl_j (ι := Bool × GPar) (γ := Tok × Tok) (fun q125 g125 => [(130, isv (q125.1))]) (fun q125 g125 => [boxE b3 ((q125.2.l, q125.2.at_, (q125.2.m.name, q125.2.m.tagging, (TList.mk g125.1 q125.2.m.names), (TList.mk g125.2 q125.2.m.types), (Vh.mk g39.2.2 q125.2.m.nodes.length)), q125.2.e, q125.2.p) : ((List GTok) × Int × (Str × Int × (TList Str) × (TList Int) × Vh) × Int × Int)), tokE g125.1, tokE g125.2, vecE g39.2.2 (q125.2.m.nodes : List GNode)]) (.cons .here (.cons .here (.cons .here (.cons .here .nil)))) h 5 rfl (fun q125 g125 h => ?_) (fun J126 h hJ126 => ?_)
     ·
      refine rnf ?_
      refine w_J (ι := GPar) (γ := Tok × Tok) (fun q131 g131 => []) (fun q131 g131 => [boxE b3 ((q131.l, q131.at_, (q131.m.name, q131.m.tagging, (TList.mk g131.1 q131.m.names), (TList.mk g131.2 q131.m.types), (Vh.mk g39.2.2 q131.m.nodes.length)), q131.e, q131.p) : ((List GTok) × Int × (Str × Int × (TList Str) × (TList Int) × Vh) × Int × Int)), tokE g131.1, tokE g131.2, vecE g39.2.2 (q131.m.nodes : List GNode)]) (.cons .here (.cons .here (.cons .here (.cons .here .nil)))) h (fun q131 g131 h => ?_) (fun J132 h hJ132 => ?_)
      ·
       refine w_seq ?_
       refine wsr ?_
       refine oV (v_move rfl) ?_
       refine oV (v_nilCheck rfl) ?_
       refine oV (v_fa rfl pt49_0_3 fd49_3) ?_
       refine oT (t_loadC (R := isv (q131.e)) ty27 rfl .here (fun _ _ h => h) ?_)
       refine oV (v_neq rfl rfl) ?_
       refine rnf ?_
       refine w_condM h rfl (fun _ h => ?_) (fun _ h => ?_)
       ·
        refine w_seq ?_
        refine w_pinN 8 .here rfl (fun o139 hn140 => ?_)
        refine w_regionD (.v 0 (.v 1 (.v 2 (.v 3 (.v 4 (.v 5 (.v 6 (.v 7 (.v 8 (.t 9 (.v 10 (.v 11 .nil)))))))))))) moOrd (by kernel_rfl) ?_
        refine rd_v rfl (v_build (z := (GMod.mk (Str.mk []) (0 : Int) ([] : (List Str)) ([] : (List Int)) ([] : (List GNode)))) rfl bu26 ze26 .nil) ?_
        refine rd_v rfl (v_move rfl) ?_
        refine rd_v rfl (v_nilCheckP rfl) ?_
        refine rd_v rfl (v_fp rfl pt49_0_4 fd49_4) ?_
        refine rd_v rfl (v_lpC (R := isv (q131.p)) ty3 rfl (List.Mem.head _) (fun _ _ h => h)) ?_
        refine rd_v rfl (v_move rfl) ?_
        refine rd_v rfl (v_nilCheckP rfl) ?_
        refine rd_v rfl (v_fp rfl pt49_0_3 fd49_3) ?_
        refine rd_v rfl (v_lpC (R := isv (q131.e)) ty27 rfl (List.Mem.head _) (fun _ _ h => h)) ?_
        refine rd_t rfl rfl (t_storeC (y' := ((GMod.mk (Str.mk []) (0 : Int) ([] : (List Str)) ([] : (List Int)) ([] : (List GNode))) : GMod)) ty26 rfl rfl (fun _ _ h => h) (.there (.there (.there .here))) rfl ?_)
        refine rd_v rfl (v_assign rfl) ?_
        refine rd_v rfl (v_assign rfl) ?_
        refine rd_nil ?_
        refine fin_unpinN 8 hn140 rfl ?_
        refine fin_nxt ?_
        refine w_ret ?_
        refine ret_nxt ?_
        refine ret_post (.cell rfl (.there .here) ty26 (.tmp rfl (.tmp rfl .nil))) .nil ?_
        obtain rfl := Option.some.inj h
        exact ⟨rfl, rfl⟩
       ·
        refine wkf ?_
        refine wsr ?_
        refine oV (v_move rfl) ?_
        refine oV (v_nilCheck rfl) ?_
        refine oV (v_fa rfl pt49_0_2 fd49_2) ?_
        refine rl_upd (upd_frzB (y := ((q131.l, q131.at_, (q131.m.name, q131.m.tagging, (TList.mk g131.1 q131.m.names), (TList.mk g131.2 q131.m.types), q131.m.nodes), q131.e, q131.p) : ((List GTok) × Int × (Str × Int × (TList Str) × (TList Int) × (List GNode)) × Int × Int))) (.there (.there (.there .here))) .here (fun S hv => (Cv.pair Cv.id (Cv.pair Cv.id (Cv.pair (Cv.pair Cv.id (Cv.pair Cv.id (Cv.pair Cv.id (Cv.pair Cv.id (Cv.vh hv (by first | rfl | simp)))))) (Cv.pair Cv.id Cv.id)))))) ?_
        refine rl_upd (upd_slot (R' := ptrv b3 ((Fld.id (((List GTok) × Int × (Str × Int × (TList Str) × (TList Int) × (List GNode)) × Int × Int))).comp pt49_1_2)) 151 rfl (fun _ _ h => h)) ?_
        refine oT (t_loadC (y := ((q131.l, q131.at_, (q131.m.name, q131.m.tagging, (TList.mk g131.1 q131.m.names), (TList.mk g131.2 q131.m.types), q131.m.nodes), q131.e, q131.p) : ((List GTok) × Int × (Str × Int × (TList Str) × (TList Int) × (List GNode)) × Int × Int))) (R := isv (((q131.m.name, q131.m.tagging, (TList.mk g131.1 q131.m.names), (TList.mk g131.2 q131.m.types), q131.m.nodes)) : ((Str × Int × (TList Str) × (TList Int) × (List GNode))))) ty26 rfl .here (by exact (fun _ _ h => h)) ?_)
        refine rl_upd (upd_slot (R' := isv (q131.m)) 152 rfl (Cv.isv rfl fun S => (fun cs h => GMod.cv (x := q131.m) cs (((Cv.pair Cv.id (Cv.pair Cv.id (Cv.pair Cv.tl (Cv.pair Cv.tl Cv.id)))) : Cv S ((q131.m.name, q131.m.tagging, (TList.mk g131.1 q131.m.names), (TList.mk g131.2 q131.m.types), q131.m.nodes) : (Str × Int × (TList Str) × (TList Int) × (List GNode))) (GMod.to q131.m)) cs h)))) ?_
        refine oT (t_storeC (y' := (q131.m : GMod)) ty26 rfl rfl (fun _ _ h => h) (.there (.there (.there .here))) rfl ?_)
        refine oV (v_assign rfl) ?_
        refine oV (v_assign rfl) ?_
        refine rnf ?_
        refine w_ret ?_
        refine ret_post (.cell rfl .here ty26 (.tmp rfl (.tmp rfl .nil))) .nil ?_
        obtain rfl := Option.some.inj h
        exact ⟨rfl, rfl⟩
      ·
       refine w_condM h rfl (fun _ h => ?_) (fun _ h => ?_)
       ·
        refine w_region ?_
        refine oV (v_move rfl) ?_
        refine oV (v_move rfl) ?_
        refine cal_inv h fun y133 hy133 h => ?_
        refine oT (t_call (r05_parser_now_w hy133) hT (.same rfl .nil) (.cons .here (.cons .here (.cons .here (.cons .here .nil)))) (fun R H' hR => ?_))
        obtain ⟨t134, t135, rfl, rfl⟩ := hR
        refine cal_inv h fun y136 hy136 h => ?_
        refine oT (t_call (r05_parser_fail_w hy136) hT (.same rfl (.same rfl (.same rfl .nil))) (.cons .here (.cons .here (.cons .here (.cons .here .nil)))) (fun R H' hR => ?_))
        obtain ⟨t137, t138, rfl, rfl⟩ := hR
        refine rl_nil ?_
        exact hJ132 _ (t137, t138) h _ (join_imp 4 rfl rfl mod_nil (.cons .here (.cons .here (.cons .here (.cons .here (.cons .here .nil))))))
       ·
        refine w_skip ?_
        exact hJ132 _ (g125.1, g125.2) h _ (join_imp 0 rfl rfl mod_nil (.cons .here (.cons .here (.cons .here (.cons .here (.cons .here .nil))))))
     ·
      refine rl_condM (j := 125) h rfl (fun g127 h => ?_) (fun g127 h => ?_)
      ·
       refine op_take rfl rfl (dj := 125) rfl g127 (OpV.t (v_move rfl) ?_)
       refine cal_inv h fun y128 hy128 h => ?_
       refine op_take rfl rfl (dj := 125) rfl g127 (t_call (r05_parser_now_w hy128) hT (.same rfl .nil) (.cons .here (.cons .here (.cons .here (.cons .here .nil)))) (fun R H' hR => ?_))
       obtain ⟨t129, t130, rfl, rfl⟩ := hR
       refine op_take rfl rfl (dj := 125) rfl g127 (OpV.t (v_field GTok.f0 rfl fd53_0 rfl) ?_)
       refine op_take rfl rfl (dj := 125) rfl g127 (OpV.t (v_neq rfl rfl) ?_)
       refine oV (v_pick_t rfl g127 rfl) ?_
       exact hJ126 _ (t129, t130) h _ (join_imp 5 rfl rfl (mod_cons (j := 130) rfl (fun _ _ h => h) mod_nil) (.cons .here (.cons .here (.cons .here (.cons .here (.cons .here .nil))))))
      ·
       refine op_pass rfl (dj := 125) rfl g127 ?_
       refine op_pass rfl (dj := 125) rfl g127 ?_
       refine op_pass rfl (dj := 125) rfl g127 ?_
       refine op_pass rfl (dj := 125) rfl g127 ?_
       refine oV (v_pick_f rfl g127 rfl) ?_
       exact hJ126 _ (g91.1, g91.2) h _ (join_imp 5 rfl rfl (mod_cons (j := 130) rfl (fun _ _ h => h) mod_nil) (.cons .here (.cons .here (.cons .here (.cons .here (.cons .here .nil))))))
   ·
    refine rl_condM (j := 66) h rfl (fun g93 h => ?_) (fun g93 h => ?_)
    ·
     refine op_take rfl rfl (dj := 66) rfl g93 (OpV.t (v_move rfl) ?_)
     refine cal_inv h fun y94 hy94 h => ?_
     refine op_take rfl rfl (dj := 66) rfl g93 (t_call (r05_parser_is_w hy94) hT (.same rfl (.same rfl .nil)) (.cons .here (.cons .here (.cons .here (.cons .here .nil)))) (fun R H' hR => ?_))
     obtain ⟨t95, t96, rfl, rfl⟩ := hR
     refine op_take rfl rfl (dj := 66) rfl g93 (OpV.t (v_not rfl) ?_)
     refine oV (v_pick_t rfl g93 rfl) ?_
     exact hJ92 _ (t95, t96) h _ (join_imp 4 rfl rfl (mod_cons (j := 70) rfl (fun _ _ h => h) mod_nil) (.cons .here (.cons .here (.cons .here (.cons .here (.cons .here .nil))))))
    ·
     refine op_pass rfl (dj := 66) rfl g93 ?_
     refine op_pass rfl (dj := 66) rfl g93 ?_
     refine op_pass rfl (dj := 66) rfl g93 ?_
     refine oV (v_pick_f rfl g93 rfl) ?_
     exact hJ92 _ (g39.1, g39.2.1) h _ (join_imp 4 rfl rfl (mod_cons (j := 70) rfl (fun _ _ h => h) mod_nil) (.cons .here (.cons .here (.cons .here (.cons .here (.cons .here .nil))))))
  ·
   refine w_block ?_
   refine wsr ?_
   refine oV (v_move rfl) ?_
   refine cal_inv h fun y15 hy15 h => ?_
   refine oT (t_call (r05_parser_is_w hy15) hT (.same rfl (.same rfl .nil)) (.cons .here (.cons .here (.cons .here (.cons .here .nil)))) (fun R H' hR => ?_))
   obtain ⟨t16, t17, rfl, rfl⟩ := hR
   refine oV (v_assign rfl) ?_
   refine rnf ?_
   refine w_condM h rfl (fun _ h => ?_) (fun _ h => ?_)
   ·
    refine w_region ?_
    refine oV (v_move rfl) ?_
    refine cal_inv h fun y18 hy18 h => ?_
    refine oT (t_call (r05_parser_must_w hy18) hT (.same rfl (.same rfl .nil)) (.cons .here (.cons .here (.cons .here (.cons .here .nil)))) (fun R H' hR => ?_))
    obtain ⟨t19, t20, rfl, rfl⟩ := hR
    refine rl_nil ?_
    refine fin_block ?_
    exact hJ14 _ (t19, t20) h _ (join_imp 5 rfl rfl mod_nil (.cons .here (.cons .here (.cons .here (.cons .here (.cons .here .nil))))))
   ·
    refine wsr ?_
    refine oV (v_move rfl) ?_
    refine cal_inv h fun y21 hy21 h => ?_
    refine oT (t_call (r05_parser_is_w hy21) hT (.same rfl (.same rfl .nil)) (.cons .here (.cons .here (.cons .here (.cons .here .nil)))) (fun R H' hR => ?_))
    obtain ⟨t22, t23, rfl, rfl⟩ := hR
    refine oV (v_assign rfl) ?_
    refine rnf ?_
    refine w_condM h rfl (fun _ h => ?_) (fun _ h => ?_)
    ·
     refine wsr ?_
     refine oV (v_move rfl) ?_
     refine oV (v_nilCheck rfl) ?_
     refine oV (v_fa rfl pt49_0_2 fd49_2) ?_
     refine oV (v_fa rfl pt26_0_1 fd26_1) ?_
     refine oT (t_storeC (y' := ((y21.2.l, y21.2.at_, (y21.2.m.name, (1 : Int), (TList.mk t22 y21.2.m.names), (TList.mk t23 y21.2.m.types), (Vh.mk none y21.2.m.nodes.length)), y21.2.e, y21.2.p) : ((List GTok) × Int × (Str × Int × (TList Str) × (TList Int) × Vh) × Int × Int))) ty3 rfl rfl (fun _ _ h => h) .here rfl ?_)
     refine rnf ?_
     refine w_region ?_
     refine oV (v_move rfl) ?_
     refine cal_inv h fun y24 hy24 h => ?_
     refine oT (t_call (r05_parser_must_w hy24) hT (.same rfl (.same rfl .nil)) (.cons .here (.cons .here (.cons .here (.cons .here .nil)))) (fun R H' hR => ?_))
     obtain ⟨t25, t26, rfl, rfl⟩ := hR
     refine rl_nil ?_
     refine fin_block ?_
     exact hJ14 _ (t25, t26) h _ (join_imp 12 rfl rfl mod_nil (.cons .here (.cons .here (.cons .here (.cons .here (.cons .here .nil))))))
    ·
     refine wsr ?_
     refine oV (v_move rfl) ?_
     refine cal_inv h fun y27 hy27 h => ?_
     refine oT (t_call (r05_parser_is_w hy27) hT (.same rfl (.same rfl .nil)) (.cons .here (.cons .here (.cons .here (.cons .here .nil)))) (fun R H' hR => ?_))
     obtain ⟨t28, t29, rfl, rfl⟩ := hR
     refine oV (v_assign rfl) ?_
     refine rnf ?_
     refine w_condM h rfl (fun _ h => ?_) (fun _ h => ?_)
     ·
      refine wsr ?_
      refine oV (v_move rfl) ?_
      refine oV (v_nilCheck rfl) ?_
      refine oV (v_fa rfl pt49_0_2 fd49_2) ?_
      refine oV (v_fa rfl pt26_0_1 fd26_1) ?_
      refine oT (t_storeC (y' := ((y27.2.l, y27.2.at_, (y27.2.m.name, (2 : Int), (TList.mk t28 y27.2.m.names), (TList.mk t29 y27.2.m.types), (Vh.mk none y27.2.m.nodes.length)), y27.2.e, y27.2.p) : ((List GTok) × Int × (Str × Int × (TList Str) × (TList Int) × Vh) × Int × Int))) ty3 rfl rfl (fun _ _ h => h) .here rfl ?_)
      refine rnf ?_
      refine w_region ?_
      refine oV (v_move rfl) ?_
      refine cal_inv h fun y30 hy30 h => ?_
      refine oT (t_call (r05_parser_must_w hy30) hT (.same rfl (.same rfl .nil)) (.cons .here (.cons .here (.cons .here (.cons .here .nil)))) (fun R H' hR => ?_))
      obtain ⟨t31, t32, rfl, rfl⟩ := hR
      refine rl_nil ?_
      refine fin_block ?_
      exact hJ14 _ (t31, t32) h _ (join_imp 15 rfl rfl mod_nil (.cons .here (.cons .here (.cons .here (.cons .here (.cons .here .nil))))))
     ·
      refine w_skip ?_
      refine fin_block ?_
      exact hJ14 _ (t28, t29) h _ (join_imp 9 rfl rfl mod_nil (.cons .here (.cons .here (.cons .here (.cons .here (.cons .here .nil))))))

end Go.Proofs.YtdcdndflfhaejaaDoor


namespace Go.Proofs.YtdcdndflfhaejaaDoor
open Go.Sy
set_option maxRecDepth 4000
theorem refs_of_w : ∀ {a_m : GMod} {a_at_ : Int} {r : Int}, refs_of a_m a_at_ = some r → Ctr Tryd.prog 26 [isv (a_m), isv (a_at_)] [] (fun R H => R = oneOf [isv (r)] ∧ H = []) := by
 intro a_m a_at_ r h
 unfold refs_of at h
 refine spec_intro Tryd.func26 rfl (by decide +kernel) (by rfl) fun w0 S0 hT => ?_
 refine wsr ?_
 refine oT (t_boxIC (y := a_m) rfl (fun _ _ h => h) ?_)
 refine oV (v_assign rfl) ?_
 refine rnf ?_
 refine w_seq ?_
 refine wsr ?_
 refine oV (v_move rfl) ?_
 refine oV (v_fi rfl GMod.f3 fd26_3 rfl (z := a_m.types)) ?_
 refine oV (v_loadI ty23 rfl) ?_
 refine oV (v_ln (l := a_m.types) rfl (fun _ _ h => h) sl23) ?_
 refine oV (v_geq rfl rfl) ?_
 refine rnf ?_
 refine w_condM h rfl (fun _ h => ?_) (fun _ h => ?_)
 ·
  refine wsr ?_
  refine oV (v_assign rfl) ?_
  refine rnf ?_
  refine w_ret ?_
  refine ret_nxt ?_
  refine ret_post (.tmp rfl .nil) .nil ?_
  obtain rfl := Option.some.inj h
  exact ⟨rfl, rfl⟩
 ·
  refine wkf ?_
  refine wsr ?_
  refine oV (v_fi rfl GMod.f3 fd26_3 rfl (z := a_m.types)) ?_
  refine oV (v_loadI ty23 rfl) ?_
  refine oV (v_move rfl) ?_
  refine cal_inv h fun y1 hy1 h => ?_
  refine oV (v_ix (l := a_m.types) rfl (fun _ _ h => h) rfl sl23 hy1) ?_
  refine oV (v_loadI ty3 rfl) ?_
  refine oV (v_assign rfl) ?_
  refine rnf ?_
  refine w_ret ?_
  refine ret_post (.tmp rfl .nil) .nil ?_
  obtain rfl := Option.some.inj h
  exact ⟨rfl, rfl⟩


theorem slices_Index_Lstring_string_w : ∀ {a_s : (List Str)} {a_v : Str} {r : Int}, slices_Index_Lstring_string a_s a_v = some r → Ctr Tryd.prog 34 [isv (a_s), isv (a_v)] [] (fun R H => R = oneOf [isv (r)] ∧ H = []) := by
 intro a_s a_v r h
 unfold slices_Index_Lstring_string at h
 refine spec_intro Tryd.func34 rfl (by decide +kernel) (by rfl) fun w0 S0 hT => ?_
 refine wsr ?_
 refine oV (v_assign rfl) ?_
 refine rnf ?_
 refine w_seq ?_
 refine wsr ?_
 refine oV (v_move rfl) ?_
 refine oV (v_ln (l := a_s) rfl (fun _ _ h => h) sl22) ?_
 refine oV (v_move rfl) ?_
 refine rnf ?_
 refine w_block ?_
 refine w_lp (ι := Int) (γ := Unit) (fun q1 g1 => [(8, isv (q1))]) (fun q1 g1 => []) h () (mod_cons (j := 8) rfl (fun _ _ h => h) mod_nil) .nil (fun L2 q1 g1 Q7 h hL2 eL2 rL2 => ?_)
 refine wsr ?_
 refine oV (v_lss rfl rfl) ?_
 refine rnf ?_
 refine w_seq ?_
 refine w_condM h rfl (fun _ h => ?_) (fun _ h => ?_)
 ·
  refine wkf ?_
  refine w_seq ?_
  refine w_block ?_
  refine wsr ?_
  refine oV (v_move rfl) ?_
  refine oV (v_assign rfl) ?_
  refine rnf ?_
  refine wsr ?_
  refine oV (v_move rfl) ?_
  refine oV (v_move rfl) ?_
  refine oV (v_move rfl) ?_
  refine cal_inv h fun y5 hy5 h => ?_
  refine oV (v_ix (l := a_s) rfl (fun _ _ h => h) rfl sl22 hy5) ?_
  refine oV (v_loadI ty9 rfl) ?_
  refine oV (v_eqA eq9 rfl rfl) ?_
  refine rnf ?_
  refine w_condM h rfl (fun _ h => ?_) (fun _ h => ?_)
  ·
   refine wsr ?_
   refine oV (v_move rfl) ?_
   refine oV (v_assign rfl) ?_
   refine rnf ?_
   refine w_ret ?_
   refine ret_block ?_
   refine ret_nxt ?_
   refine rL2 _ ?_
   refine ret_block ?_
   refine ret_nxt ?_
   refine ret_post (.tmp rfl .nil) .nil ?_
   obtain rfl := Option.some.inj h
   exact ⟨rfl, rfl⟩
  ·
   refine w_skip ?_
   refine fin_block ?_
   refine fin_nxt ?_
   refine w_region ?_
   refine ck_inv h fun q6 h => ?_
   refine oV (v_add rfl rfl q6) ?_
   refine oV (v_move rfl) ?_
   refine rl_nil ?_
   exact hL2 _ () h _ (join_imp 12 rfl rfl (mod_cons (j := 8) rfl (fun _ _ h => h) mod_nil) .nil)
 ·
  refine w_exit ?_
  refine exi_nxt ?_
  refine eL2 _ _ ?_
  refine exi_block ?_
  refine fin_nxt ?_
  refine wsr ?_
  refine oV (v_assign rfl) ?_
  refine rnf ?_
  refine w_ret ?_
  refine ret_post (.tmp rfl .nil) .nil ?_
  obtain rfl := Option.some.inj h
  exact ⟨rfl, rfl⟩


theorem slices_Contains_Lstring_string_w : ∀ {a_s : (List Str)} {a_v : Str} {r : Bool}, slices_Contains_Lstring_string a_s a_v = some r → Ctr Tryd.prog 67 [isv (a_s), isv (a_v)] [] (fun R H => R = oneOf [isv (r)] ∧ H = []) := by
 intro a_s a_v r h
 unfold slices_Contains_Lstring_string at h
 refine spec_intro Tryd.func67 rfl (by decide +kernel) (by rfl) fun w0 S0 hT => ?_
 refine wsr ?_
 refine oV (v_assign rfl) ?_
 refine rnf ?_
 refine wsr ?_
 refine oV (v_move rfl) ?_
 refine oV (v_move rfl) ?_
 refine cal_inv h fun y1 hy1 h => ?_
 refine oT (t_call (slices_Index_Lstring_string_w hy1) hT (.same rfl (.same rfl .nil)) .nil (fun R H' hR => ?_))
 obtain ⟨rfl, rfl⟩ := hR
 refine oV (v_geq rfl rfl) ?_
 refine oV (v_assign rfl) ?_
 refine rnf ?_
 refine w_ret ?_
 refine ret_post (.tmp rfl .nil) .nil ?_
 obtain rfl := Option.some.inj h
 exact ⟨rfl, rfl⟩


theorem refs_with_w : ∀ {a_l : (List Str)} {a_more : (List Str)} {t_a_l : Tok} {r : (List Str)}, refs_with a_l a_more = some r → Ctr Tryd.prog 50 [appv t_a_l (a_l), isv (a_more)] [tokE t_a_l] (fun R H => ∃ u1 : Tok, R = oneOf [appv u1 (r)] ∧ H = [tokE u1]) := by
 intro a_l a_more t_a_l r h
 unfold refs_with at h
 refine spec_intro Tryd.func50 rfl (by decide +kernel) (by rfl) fun w0 S0 hT => ?_
 refine wsr ?_
 refine oV (v_assign rfl) ?_
 refine rnf ?_
 refine w_seq ?_
 refine wsr ?_
 refine oV (v_move rfl) ?_
 refine oV (v_ln (l := a_more) rfl (fun _ _ h => h) sl22) ?_
 refine oV (v_move rfl) ?_
 refine rnf ?_
 refine w_block ?_
 refine w_lp (ι := (List Str) × Int) (γ := Tok) (fun q1 g1 => [(0, appv g1 (q1.1)), (9, isv (q1.2))]) (fun q1 g1 => [tokE g1]) h (t_a_l) (mod_cons (j := 0) rfl (fun _ _ h => h) (mod_cons (j := 9) rfl (fun _ _ h => h) mod_nil)) (.cons .here .nil) (fun L2 q1 g1 Q19 h hL2 eL2 rL2 => ?_)
 refine wsr ?_
 refine oV (v_lss rfl rfl) ?_
 refine rnf ?_
 refine w_seq ?_
 refine w_condM h rfl (fun _ h => ?_) (fun _ h => ?_)
 ·
  refine wkf ?_
  refine w_seq ?_
  refine w_J (ι := (List Str)) (γ := Tok) (fun q11 g11 => [(0, appv g11 (q11))]) (fun q11 g11 => [tokE g11]) (.cons .here .nil) h (fun q11 g11 h => ?_) (fun J12 h hJ12 => ?_)
  ·
   refine w_region ?_
   refine ck_inv h fun q18 h => ?_
   refine oV (v_add rfl rfl q18) ?_
   refine oV (v_move rfl) ?_
   refine rl_nil ?_
   exact hL2 _ (g11) h _ (join_imp 6 rfl rfl (mod_cons (j := 0) rfl (fun _ _ h => h) (mod_cons (j := 9) rfl (fun _ _ h => h) mod_nil)) (.cons .here .nil))
  ·
   refine w_block ?_
   refine wsr ?_
   refine cal_inv h fun y13 hy13 h => ?_
   refine oV (v_ix (l := a_more) rfl (fun _ _ h => h) rfl sl22 hy13) ?_
   refine oV (v_loadI ty9 rfl) ?_
   refine oV (v_assign rfl) ?_
   refine rnf ?_
   refine wsr ?_
   refine oV (v_move rfl) ?_
   refine oV (v_move rfl) ?_
   refine cal_inv h fun y14 hy14 h => ?_
   refine oT (t_call (slices_Contains_Lstring_string_w hy14) hT (.cons rfl appv_isv (.same rfl .nil)) .nil (fun R H' hR => ?_))
   obtain ⟨rfl, rfl⟩ := hR
   refine oV (v_not rfl) ?_
   refine rnf ?_
   refine w_condM h rfl (fun _ h => ?_) (fun _ h => ?_)
   ·
    refine w_region ?_
    refine oV (v_move rfl) ?_
    refine oV (v_move rfl) ?_
    refine oT (t_buildSlice (l := ([y13] : (List Str))) el22 (.cons rfl (fun _ _ h => h) .nil) rfl rfl ?_)
    refine asr_inv h fun q17 h => ?_
    refine oT (t_appC (l := q1.1) (m := ([y13] : (List Str))) ap22_22 rfl (fun _ _ h => h) rfl appv_isv .here q17 fun t16 => ?_)
    refine oV (v_assign rfl) ?_
    refine rl_nil ?_
    refine fin_block ?_
    exact hJ12 _ (t16) h _ (join_imp 12 rfl rfl (mod_cons (j := 0) rfl (fun _ _ h => h) mod_nil) (.cons .here .nil))
   ·
    refine w_skip ?_
    refine fin_block ?_
    exact hJ12 _ (g1) h _ (join_imp 7 rfl rfl (mod_cons (j := 0) rfl (fun _ _ h => h) mod_nil) (.cons .here .nil))
 ·
  refine w_exit ?_
  refine exi_nxt ?_
  refine eL2 _ _ ?_
  refine exi_block ?_
  refine fin_nxt ?_
  refine wsr ?_
  refine oV (v_move rfl) ?_
  refine oV (v_assign rfl) ?_
  refine rnf ?_
  refine w_ret ?_
  refine ret_post (.tmp rfl .nil) (.cons .here .nil) ?_
  obtain rfl := Option.some.inj h
  exact ⟨g1, rfl, rfl⟩


theorem refs_refers_c1_w : ∀ {a_n_ : GNode} {a_a1 : (List Str)} {b_a_a1 : Nat} {t_a_a11 : Tok} {r : (List Str)}, refs_refers_c1 a_n_ a_a1 = some r → Ctr Tryd.prog 49 [isv (a_n_), ptrv b_a_a1 (Fld.id (TList Str))] [boxE b_a_a1 ((TList.mk t_a_a11 a_a1) : (TList Str)), tokE t_a_a11] (fun R H => ∃ u1 : Tok, R = oneOf [] ∧ H = [boxE b_a_a1 ((TList.mk u1 r)), tokE u1]) := by
 intro a_n_ a_a1 b_a_a1 t_a_a11 r h
 unfold refs_refers_c1 at h
 refine spec_intro Tryd.func49 rfl (by decide +kernel) (by rfl) fun w0 S0 hT => ?_
 refine wsr ?_
 refine oT (t_boxIC (y := a_n_) rfl (fun _ _ h => h) ?_)
 refine rnf ?_
 refine wsr ?_
 refine oV (v_fi rfl GNode.f0 fd83_0 rfl (z := a_n_.kind)) ?_
 refine oV (v_loadI ty3 rfl) ?_
 refine oV (v_eql rfl rfl) ?_
 refine rnf ?_
 refine w_condM h rfl (fun _ h => ?_) (fun _ h => ?_)
 ·
  refine w_region ?_
  refine oT (t_loadC (R := appv t_a_a11 (a_a1)) ty22 rfl .here isvT1 ?_)
  refine oV (v_fi rfl GNode.f1 fd83_1 rfl (z := a_n_.name)) ?_
  refine oV (v_loadI ty9 rfl) ?_
  refine oT (t_buildSlice (l := ([a_n_.name] : (List Str))) el22 (.cons rfl (fun _ _ h => h) .nil) rfl rfl ?_)
  refine cal_inv h fun y3 hy3 h => ?_
  refine oT (t_call (refs_with_w hy3) hT (.same rfl (.cons rfl appv_isv .nil)) (.cons (.there .here) .nil) (fun R H' hR => ?_))
  obtain ⟨t4, rfl, rfl⟩ := hR
  refine oT (t_storeC (y' := ((TList.mk t4 y3) : (TList Str))) ty22 rfl rfl isvT2 (.there .here) rfl ?_)
  refine rl_nil ?_
  refine fin_post .nil (.cons .here (.cons .here .nil)) ?_
  obtain rfl := Option.some.inj h
  exact ⟨t4, rfl, rfl⟩
 ·
  refine w_skip ?_
  refine fin_post .nil (.cons .here (.cons .here .nil)) ?_
  obtain rfl := Option.some.inj h
  exact ⟨t_a_a11, rfl, rfl⟩


def refs_walk_C (f' : GMod → Int → (List Bool) → (List Str) → Option ((List Bool) × (List Str))) : Prop :=
 ∀ {a_m : GMod} {a_node : Int} {a_seen : (List Bool)} {a_do__0 : (List Str)} {v_a_seen : Vt} {b_a_do__0 : Nat} {t_a_do__01 : Tok} {r : (List Bool) × (List Str)}, f' a_m a_node a_seen a_do__0 = some r → Ctr Tryd.prog 48 [isv (a_m), isv (a_node), vecv v_a_seen (a_seen.length), clov 49 [ptrv b_a_do__0 (Fld.id (TList Str))]] [vecE v_a_seen (a_seen : List Bool), boxE b_a_do__0 ((TList.mk t_a_do__01 a_do__0) : (TList Str)), tokE t_a_do__01] (fun R H => ∃ u1 : Tok, R = oneOf [] ∧ H = [vecE v_a_seen (r.1), boxE b_a_do__0 ((TList.mk u1 r.2)), tokE u1])
theorem refs_walk_w0 {refs_walk' : GMod → Int → (List Bool) → (List Str) → Option ((List Bool) × (List Str))} (h_refs_walk : refs_walk_C refs_walk') : ∀ {a_m : GMod} {a_node : Int} {a_seen : (List Bool)} {a_do__0 : (List Str)} {v_a_seen : Vt} {b_a_do__0 : Nat} {t_a_do__01 : Tok} {r : (List Bool) × (List Str)}, refs_walk_F refs_walk' a_m a_node a_seen a_do__0 = some r → Ctr Tryd.prog 48 [isv (a_m), isv (a_node), vecv v_a_seen (a_seen.length), clov 49 [ptrv b_a_do__0 (Fld.id (TList Str))]] [vecE v_a_seen (a_seen : List Bool), boxE b_a_do__0 ((TList.mk t_a_do__01 a_do__0) : (TList Str)), tokE t_a_do__01] (fun R H => ∃ u1 : Tok, R = oneOf [] ∧ H = [vecE v_a_seen (r.1), boxE b_a_do__0 ((TList.mk u1 r.2)), tokE u1]) := by
 intro a_m a_node a_seen a_do__0 v_a_seen b_a_do__0 t_a_do__01 r h
 unfold refs_walk_F at h
 refine spec_intro Tryd.func48 rfl (by decide +kernel) (by rfl) fun w0 S0 hT => ?_
 refine wsr ?_
 refine oT (t_boxIC (y := a_m) rfl (fun _ _ h => h) ?_)
 refine rnf ?_
 refine w_seq ?_
 refine wsr ?_
 refine oV (v_move rfl) ?_
 refine oV (v_lss rfl rfl) ?_
 refine oV (v_move rfl) ?_
 refine rl_j (ι := Bool) (γ := Unit) (fun q2 g2 => [(19, isv (q2))]) (fun q2 g2 => []) .nil h 6 rfl (fun q2 g2 h => ?_) (fun J3 h hJ3 => ?_)
 ·
  refine oV (v_move rfl) ?_
  refine rl_j (ι := Bool) (γ := Unit) (fun q5 g5 => [(25, isv (q5))]) (fun q5 g5 => []) .nil h 5 rfl (fun q5 g5 h => ?_) (fun J6 h hJ6 => ?_)
  ·
   refine rnf ?_
   refine w_condM h rfl (fun _ h => ?_) (fun _ h => ?_)
   ·
    refine w_ret ?_
    refine ret_nxt ?_
    refine ret_post .nil (.cons .here (.cons .here (.cons .here .nil))) ?_
    obtain rfl := Option.some.inj h
    exact ⟨t_a_do__01, rfl, rfl⟩
   ·
    refine wkf ?_
    refine wsr ?_
    refine oV (v_move rfl) ?_
    refine oV (v_move rfl) ?_
    refine asd_inv h fun q10 h => ?_
    refine oV (v_vidx (α := Bool) sl88 rfl rfl q10.1 q10.2) ?_
    refine cal_inv h fun y11 hy11 h => ?_
    refine oT (t_vstore ty4 rfl rfl .here hy11 ?_)
    refine rnf ?_
    refine wsr ?_
    refine oV (v_fi rfl GMod.f4 fd26_4 rfl (z := a_m.nodes)) ?_
    refine oV (v_loadI ty24 rfl) ?_
    refine oV (v_move rfl) ?_
    refine cal_inv h fun y12 hy12 h => ?_
    refine oV (v_ix (l := a_m.nodes) rfl (fun _ _ h => h) rfl sl24 hy12) ?_
    refine oV (v_loadI ty83 rfl) ?_
    refine oT (t_alloc _ ze83 fun b13 => ?_)
    refine oT (t_storeC (y' := (y12 : GNode)) ty83 rfl rfl (fun _ _ h => h) .here rfl ?_)
    refine rl_upd (upd_imm 8 .here rfl) ?_
    refine rnf ?_
    refine wsr ?_
    refine oV (v_move rfl) ?_
    refine oV (v_loadI ty83 rfl) ?_
    refine cal_inv h fun y14 hy14 h => ?_
    refine oT (t_callC rfl (.same rfl .nil) (refs_refers_c1_w hy14) hT (.cons (.there .here) (.cons (.there .here) .nil)) (fun R H' hR => ?_))
    obtain ⟨t15, rfl, rfl⟩ := hR
    refine rnf ?_
    refine w_seq ?_
    refine wsr ?_
    refine oV (v_fi rfl GNode.f0 fd83_0 rfl (z := y12.kind)) ?_
    refine oV (v_loadI ty3 rfl) ?_
    refine oV (v_eql rfl rfl) ?_
    refine rnf ?_
    refine w_condM h rfl (fun _ h => ?_) (fun _ h => ?_)
    ·
     refine w_ret ?_
     refine ret_nxt ?_
     refine ret_post .nil (.cons (.there (.there .here)) (.cons .here (.cons .here .nil))) ?_
     obtain rfl := Option.some.inj h
     exact ⟨t15, rfl, rfl⟩
    ·
     refine wkf ?_
     refine w_seq ?_
     refine wsr ?_
     refine oV (v_fi rfl GNode.f5 fd83_5 rfl (z := y12.fields)) ?_
     refine oV (v_loadI ty81 rfl) ?_
     refine oV (v_ln (l := y12.fields) rfl (fun _ _ h => h) sl81) ?_
     refine oV (v_move rfl) ?_
     refine rnf ?_
     refine w_block ?_
     refine w_lp (ι := (List Bool) × Int × (List Str)) (γ := Tok) (fun q16 g16 => [(26, anyv), (43, isv (q16.2.1)), (2, vecv v_a_seen (q16.1.length))]) (fun q16 g16 => [vecE v_a_seen (q16.1 : List Bool), boxE b_a_do__0 ((TList.mk g16 q16.2.2) : (TList Str)), tokE g16]) h (t15) (mod_cons (j := 26) rfl (fun _ _ _ => trivial) (mod_cons (j := 43) rfl (fun _ _ h => h) (mod_cons (j := 2) rfl (vecvE (by first | rfl | simp)) mod_nil))) (.cons (.there (.there .here)) (.cons .here (.cons .here .nil))) (fun L17 q16 g16 Q36 h hL17 eL17 rL17 => ?_)
     refine wsr ?_
     refine oV (v_lss rfl rfl) ?_
     refine rnf ?_
     refine w_seq ?_
     refine w_condM h rfl (fun _ h => ?_) (fun _ h => ?_)
     ·
      refine wkf ?_
      refine w_seq ?_
      refine w_block ?_
      refine wsr ?_
      refine cal_inv h fun y27 hy27 h => ?_
      refine oV (v_ix (l := y12.fields) rfl (fun _ _ h => h) rfl sl81 hy27) ?_
      refine oV (v_loadI ty97 rfl) ?_
      refine oT (t_alloc _ ze97 fun b28 => ?_)
      refine oT (t_storeC (y' := (y27 : GFld)) ty97 rfl rfl (fun _ _ h => h) .here rfl ?_)
      refine rl_upd (upd_imm 10 .here rfl) ?_
      refine rnf ?_
      refine w_region ?_
      refine oV (v_loadI ty26 rfl) ?_
      refine oV (v_fi rfl GFld.f1 fd97_1 rfl (z := y27.ty)) ?_
      refine oV (v_loadI ty3 rfl) ?_
      refine oV (v_move rfl) ?_
      refine oV (v_move rfl) ?_
      refine cal_inv h fun y29 hy29 h => ?_
      refine oT (t_call (h_refs_walk hy29) hT (.same rfl (.same rfl (.cons rfl (fun _ _ h => vecvE (by first | rfl | simp) _ _ h) (.same rfl .nil)))) (.cons .here (.cons .here (.cons .here .nil))) (fun R H' hR => ?_))
      obtain ⟨t30, rfl, rfl⟩ := hR
      refine asd_inv h fun q31 h => ?_
      refine rl_upd (upd_slot 2 rfl (vecvE q31.symm)) ?_
      refine rl_upd (upd_slot 50 rfl (vecvE q31.symm)) ?_
      refine rl_nil ?_
      refine fin_block ?_
      refine fin_nxt ?_
      refine w_region ?_
      refine ck_inv h fun q32 h => ?_
      refine oV (v_add rfl rfl q32) ?_
      refine oV (v_move rfl) ?_
      refine rl_nil ?_
      exact hL17 _ (t30) h _ (join_imp 18 rfl rfl (mod_cons (j := 26) rfl (fun _ _ _ => trivial) (mod_cons (j := 43) rfl (fun _ _ h => h) (mod_cons (j := 2) rfl (vecvE (by first | rfl | simp)) mod_nil))) (.cons .here (.cons .here (.cons .here .nil))))
     ·
      refine w_exit ?_
      refine exi_nxt ?_
      refine eL17 _ _ ?_
      refine exi_block ?_
      refine fin_nxt ?_
      refine wsr ?_
      refine oV (v_fi rfl GNode.f0 fd83_0 rfl (z := y12.kind)) ?_
      refine oV (v_loadI ty3 rfl) ?_
      refine oV (v_eql rfl rfl) ?_
      refine rnf ?_
      refine w_condM h rfl (fun _ h => ?_) (fun _ h => ?_)
      ·
       refine w_region ?_
       refine oV (v_loadI ty26 rfl) ?_
       refine oV (v_fi rfl GNode.f8 fd83_8 rfl (z := y12.of)) ?_
       refine oV (v_loadI ty3 rfl) ?_
       refine oV (v_move rfl) ?_
       refine oV (v_move rfl) ?_
       refine cal_inv h fun y33 hy33 h => ?_
       refine oT (t_call (h_refs_walk hy33) hT (.same rfl (.same rfl (.cons rfl (fun _ _ h => vecvE (by first | rfl | simp) _ _ h) (.same rfl .nil)))) (.cons .here (.cons .here (.cons .here .nil))) (fun R H' hR => ?_))
       obtain ⟨t34, rfl, rfl⟩ := hR
       refine asd_inv h fun q35 h => ?_
       refine rl_upd (upd_slot 2 rfl (vecvE q35.symm)) ?_
       refine rl_upd (upd_slot 60 rfl (vecvE q35.symm)) ?_
       refine rl_nil ?_
       refine fin_post .nil (.cons .here (.cons .here (.cons .here .nil))) ?_
       obtain rfl := Option.some.inj h
       exact ⟨t34, rfl, rfl⟩
      ·
       refine w_skip ?_
       refine fin_post .nil (.cons .here (.cons .here (.cons .here .nil))) ?_
       obtain rfl := Option.some.inj h
       exact ⟨g16, rfl, rfl⟩
  ·
   refine rl_condM (j := 20) h rfl (fun g7 h => ?_) (fun g7 h => ?_)
   ·
    refine op_pass rfl (dj := 20) rfl g7 ?_
    refine op_pass rfl (dj := 20) rfl g7 ?_
    refine op_pass rfl (dj := 20) rfl g7 ?_
    refine op_pass rfl (dj := 20) rfl g7 ?_
    refine oV (v_pick_t rfl g7 rfl) ?_
    exact hJ6 _ () h _ (join_imp 5 rfl rfl (mod_cons (j := 25) rfl (fun _ _ h => h) mod_nil) (.cons .here (.cons .here (.cons .here .nil))))
   ·
    refine op_take rfl rfl (dj := 20) rfl g7 (OpV.t (v_move rfl) ?_)
    refine op_take rfl rfl (dj := 20) rfl g7 (OpV.t (v_move rfl) ?_)
    refine asd_inv h fun q8 h => ?_
    refine op_take rfl rfl (dj := 20) rfl g7 (OpV.t (v_vidx (α := Bool) sl88 rfl rfl q8.1 q8.2) ?_)
    refine cal_inv h fun y9 hy9 h => ?_
    refine op_take rfl rfl (dj := 20) rfl g7 (t_vload ty4 rfl .here hy9 ?_)
    refine oV (v_pick_f rfl g7 rfl) ?_
    exact hJ6 _ () h _ (join_imp 5 rfl rfl (mod_cons (j := 25) rfl (fun _ _ h => h) mod_nil) (.cons .here (.cons .here (.cons .here .nil))))
 ·
  refine rl_condM (j := 13) h rfl (fun g4 h => ?_) (fun g4 h => ?_)
  ·
   refine op_pass rfl (dj := 13) rfl g4 ?_
   refine op_pass rfl (dj := 13) rfl g4 ?_
   refine op_pass rfl (dj := 13) rfl g4 ?_
   refine op_pass rfl (dj := 13) rfl g4 ?_
   refine op_pass rfl (dj := 13) rfl g4 ?_
   refine oV (v_pick_t rfl g4 rfl) ?_
   exact hJ3 _ () h _ (join_imp 6 rfl rfl (mod_cons (j := 19) rfl (fun _ _ h => h) mod_nil) (.cons .here (.cons .here (.cons .here .nil))))
  ·
   refine op_take rfl rfl (dj := 13) rfl g4 (OpV.t (v_move rfl) ?_)
   refine op_take rfl rfl (dj := 13) rfl g4 (OpV.t (v_fi rfl GMod.f4 fd26_4 rfl (z := a_m.nodes)) ?_)
   refine op_take rfl rfl (dj := 13) rfl g4 (OpV.t (v_loadI ty24 rfl) ?_)
   refine op_take rfl rfl (dj := 13) rfl g4 (OpV.t (v_ln (l := a_m.nodes) rfl (fun _ _ h => h) sl24) ?_)
   refine op_take rfl rfl (dj := 13) rfl g4 (OpV.t (v_geq rfl rfl) ?_)
   refine oV (v_pick_f rfl g4 rfl) ?_
   exact hJ3 _ () h _ (join_imp 6 rfl rfl (mod_cons (j := 19) rfl (fun _ _ h => h) mod_nil) (.cons .here (.cons .here (.cons .here .nil))))

theorem refs_walk_grp_w : ∀ n, refs_walk_C (refs_walk n)
 | 0 => fun h => (by cases h)
 | n + 1 => refs_walk_w0 (refs_walk_grp_w n)
theorem refs_walk_w (n : Nat) : refs_walk_C (refs_walk n) := (refs_walk_grp_w n)

theorem refs_refers_w : ∀ {a_m : GMod} {a_node : Int} {r : (List Str)}, refs_refers a_m a_node = some r → Ctr Tryd.prog 37 [isv (a_m), isv (a_node)] [] (fun R H => R = oneOf [isv (r)] ∧ H = []) := by
 intro a_m a_node r h
 unfold refs_refers at h
 refine spec_intro Tryd.func37 rfl (by decide +kernel) (by rfl) fun w0 S0 hT => ?_
 refine wsr ?_
 refine oT (t_boxIC (y := a_m) rfl (fun _ _ h => h) ?_)
 refine oV (v_assign rfl) ?_
 refine rnf ?_
 refine wsr ?_
 refine oT (t_alloc _ zt22_2 fun b1 => ?_)
 refine rl_upd (upd_tok) ?_
 refine rnf ?_
 refine w_seq ?_
 refine w_regionD (.v 0 (.v 1 (.v 2 (.v 3 (.v 4 (.v 6 (.t 5 (.t 7 .nil)))))))) moOrd (by kernel_rfl) ?_
 refine rd_v rfl (v_loadI ty26 rfl) ?_
 refine rd_v rfl (v_move rfl) ?_
 refine rd_v rfl (v_fi rfl GMod.f4 fd26_4 rfl (z := a_m.nodes)) ?_
 refine rd_v rfl (v_loadI ty24 rfl) ?_
 refine rd_v rfl (v_ln (l := a_m.nodes) rfl (fun _ _ h => h) sl24) ?_
 refine rd_v rfl (v_makeFunc (.same rfl .nil)) ?_
 refine asd_inv h fun q3 h => ?_
 refine rd_t rfl rfl (t_makeVec el88 ze4 Tryd.underlying88 rfl rfl q3.1 rfl q3.2 fun v4 => ?_)
 refine cal_inv h fun y5 hy5 h => ?_
 refine rd_t rfl rfl (t_call (refs_walk_w fuel hy5) hT (.same rfl (.same rfl (.cons rfl (fun _ _ h => vecvE (by first | rfl | simp) _ _ h) (.same rfl .nil)))) (.cons .here (.cons (.there .here) (.cons .here .nil))) (fun R H' hR => ?_))
 obtain ⟨t6, rfl, rfl⟩ := hR
 refine asd_inv h fun q7 h => ?_
 refine rd_upd (upd_slot 11 rfl (vecvE q7.symm)) ?_
 refine rd_nil ?_
 refine fin_nxt ?_
 refine wsr ?_
 refine oT (t_loadC (R := appv t6 (y5.2)) ty22 rfl (.there .here) isvT1 ?_)
 refine oV (v_assign rfl) ?_
 refine rnf ?_
 refine w_ret ?_
 refine ret_post (.as rfl appv_isv .nil) .nil ?_
 obtain rfl := Option.some.inj h
 exact ⟨rfl, rfl⟩


theorem refs_Find_w : ∀ {a_m : GMod} {a_name : Str} {r : Int}, refs_Find a_m a_name = some r → Ctr Tryd.prog 12 [isv (a_m), isv (a_name)] [] (fun R H => R = oneOf [isv (r)] ∧ H = []) := by
 intro a_m a_name r h
 unfold refs_Find at h
 refine spec_intro Tryd.func12 rfl (by decide +kernel) (by rfl) fun w0 S0 hT => ?_
 refine wsr ?_
 refine oT (t_boxIC (y := a_m) rfl (fun _ _ h => h) ?_)
 refine oV (v_assign rfl) ?_
 refine rnf ?_
 refine wsr ?_
 refine oV (v_fi rfl GMod.f2 fd26_2 rfl (z := a_m.names)) ?_
 refine oV (v_loadI ty22 rfl) ?_
 refine oV (v_move rfl) ?_
 refine cal_inv h fun y1 hy1 h => ?_
 refine oT (t_call (slices_Index_Lstring_string_w hy1) hT (.same rfl (.same rfl .nil)) .nil (fun R H' hR => ?_))
 obtain ⟨rfl, rfl⟩ := hR
 refine oV (v_assign rfl) ?_
 refine rnf ?_
 refine w_ret ?_
 refine ret_post (.tmp rfl .nil) .nil ?_
 obtain rfl := Option.some.inj h
 exact ⟨rfl, rfl⟩


theorem refs_Uses_w : ∀ {a_m : GMod} {a_node : Int} {r : (List Int)}, refs_Uses a_m a_node = some r → Ctr Tryd.prog 15 [isv (a_m), isv (a_node)] [] (fun R H => R = oneOf [isv (r)] ∧ H = []) := by
 intro a_m a_node r h
 unfold refs_Uses at h
 refine spec_intro Tryd.func15 rfl (by decide +kernel) (by rfl) fun w0 S0 hT => ?_
 refine wsr ?_
 refine oT (t_boxIC (y := a_m) rfl (fun _ _ h => h) ?_)
 refine oV (v_assign rfl) ?_
 refine rnf ?_
 refine wsr ?_
 refine oV (v_assign rfl) ?_
 refine rnf ?_
 refine w_seq ?_
 refine wsr ?_
 refine oV (v_loadI ty26 rfl) ?_
 refine oV (v_move rfl) ?_
 refine cal_inv h fun y1 hy1 h => ?_
 refine oT (t_call (refs_refers_w hy1) hT (.same rfl (.same rfl .nil)) .nil (fun R H' hR => ?_))
 obtain ⟨rfl, rfl⟩ := hR
 refine oV (v_ln (l := y1) rfl (fun _ _ h => h) sl22) ?_
 refine oV (v_move rfl) ?_
 refine rnf ?_
 refine w_block ?_
 refine w_upd (upd_tok) ?_
 refine w_lp (ι := (List Int) × Int) (γ := Tok) (fun q2 g2 => [(5, appv g2 (q2.1)), (13, isv (q2.2))]) (fun q2 g2 => [tokE g2]) h (none) (mod_cons (j := 5) rfl nilv_appv (mod_cons (j := 13) rfl (fun _ _ h => h) mod_nil)) (.cons .here .nil) (fun L3 q2 g2 Q22 h hL3 eL3 rL3 => ?_)
 refine wsr ?_
 refine oV (v_lss rfl rfl) ?_
 refine rnf ?_
 refine w_seq ?_
 refine w_condM h rfl (fun _ h => ?_) (fun _ h => ?_)
 ·
  refine wkf ?_
  refine w_seq ?_
  refine w_J (ι := (List Int)) (γ := Tok) (fun q13 g13 => [(5, appv g13 (q13))]) (fun q13 g13 => [tokE g13]) (.cons .here .nil) h (fun q13 g13 h => ?_) (fun J14 h hJ14 => ?_)
  ·
   refine w_region ?_
   refine ck_inv h fun q20 h => ?_
   refine oV (v_add rfl rfl q20) ?_
   refine oV (v_move rfl) ?_
   refine rl_nil ?_
   exact hL3 _ (g13) h _ (join_imp 6 rfl rfl (mod_cons (j := 5) rfl (fun _ _ h => h) (mod_cons (j := 13) rfl (fun _ _ h => h) mod_nil)) (.cons .here .nil))
  ·
   refine w_block ?_
   refine wsr ?_
   refine cal_inv h fun y15 hy15 h => ?_
   refine oV (v_ix (l := y1) rfl (fun _ _ h => h) rfl sl22 hy15) ?_
   refine oV (v_loadI ty9 rfl) ?_
   refine oV (v_assign rfl) ?_
   refine rnf ?_
   refine wsr ?_
   refine oV (v_loadI ty26 rfl) ?_
   refine oV (v_move rfl) ?_
   refine cal_inv h fun y16 hy16 h => ?_
   refine oT (t_call (refs_Find_w hy16) hT (.same rfl (.same rfl .nil)) .nil (fun R H' hR => ?_))
   obtain ⟨rfl, rfl⟩ := hR
   refine oV (v_assign rfl) ?_
   refine rnf ?_
   refine wsr ?_
   refine oV (v_move rfl) ?_
   refine oV (v_geq rfl rfl) ?_
   refine rnf ?_
   refine w_condM h rfl (fun _ h => ?_) (fun _ h => ?_)
   ·
    refine w_region ?_
    refine oV (v_move rfl) ?_
    refine oV (v_move rfl) ?_
    refine oT (t_buildSlice (l := ([y16] : (List Int))) el23 (.cons rfl (fun _ _ h => h) .nil) rfl rfl ?_)
    refine asr_inv h fun q19 h => ?_
    refine oT (t_appC (l := q2.1) (m := ([y16] : (List Int))) ap23_23 rfl (fun _ _ h => h) rfl appv_isv .here q19 fun t18 => ?_)
    refine oV (v_assign rfl) ?_
    refine rl_nil ?_
    refine fin_block ?_
    exact hJ14 _ (t18) h _ (join_imp 14 rfl rfl (mod_cons (j := 5) rfl (fun _ _ h => h) mod_nil) (.cons .here .nil))
   ·
    refine w_skip ?_
    refine fin_block ?_
    exact hJ14 _ (g2) h _ (join_imp 9 rfl rfl (mod_cons (j := 5) rfl (fun _ _ h => h) mod_nil) (.cons .here .nil))
 ·
  refine w_exit ?_
  refine exi_nxt ?_
  refine eL3 _ _ ?_
  refine exi_block ?_
  refine fin_nxt ?_
  refine wsr ?_
  refine oV (v_move rfl) ?_
  refine oV (v_assign rfl) ?_
  refine rnf ?_
  refine w_ret ?_
  refine ret_post (.as rfl appv_isv .nil) .nil ?_
  obtain rfl := Option.some.inj h
  exact ⟨rfl, rfl⟩


theorem refs_lost_c1_w : ∀ {a_s : Str} {a_a1 : GMod} {r : Bool}, refs_lost_c1 a_s a_a1 = some r → Ctr Tryd.prog 66 [isv (a_s), immv (a_a1)] [] (fun R H => R = oneOf [isv (r)] ∧ H = []) := by
 intro a_s a_a1 r h
 unfold refs_lost_c1 at h
 refine spec_intro Tryd.func66 rfl (by decide +kernel) (by rfl) fun w0 S0 hT => ?_
 refine wsr ?_
 refine oV (v_assign rfl) ?_
 refine rnf ?_
 refine wsr ?_
 refine oV (v_loadI ty26 rfl) ?_
 refine oV (v_move rfl) ?_
 refine cal_inv h fun y1 hy1 h => ?_
 refine oT (t_call (refs_Find_w hy1) hT (.same rfl (.same rfl .nil)) .nil (fun R H' hR => ?_))
 obtain ⟨rfl, rfl⟩ := hR
 refine oV (v_lss rfl rfl) ?_
 refine oV (v_assign rfl) ?_
 refine rnf ?_
 refine w_ret ?_
 refine ret_post (.tmp rfl .nil) .nil ?_
 obtain rfl := Option.some.inj h
 exact ⟨rfl, rfl⟩


theorem slices_IndexFunc_Lstring_string_w : ∀ {a_s : (List Str)} {a_f_0 : GMod} {r : Int}, slices_IndexFunc_Lstring_string a_s a_f_0 = some r → Ctr Tryd.prog 71 [isv (a_s), clov 66 [immv (a_f_0)]] [] (fun R H => R = oneOf [isv (r)] ∧ H = []) := by
 intro a_s a_f_0 r h
 unfold slices_IndexFunc_Lstring_string at h
 refine spec_intro Tryd.func71 rfl (by decide +kernel) (by rfl) fun w0 S0 hT => ?_
 refine wsr ?_
 refine oV (v_assign rfl) ?_
 refine rnf ?_
 refine w_seq ?_
 refine wsr ?_
 refine oV (v_move rfl) ?_
 refine oV (v_ln (l := a_s) rfl (fun _ _ h => h) sl22) ?_
 refine oV (v_move rfl) ?_
 refine rnf ?_
 refine w_block ?_
 refine w_lp (ι := Int) (γ := Unit) (fun q1 g1 => [(8, isv (q1))]) (fun q1 g1 => []) h () (mod_cons (j := 8) rfl (fun _ _ h => h) mod_nil) .nil (fun L2 q1 g1 Q9 h hL2 eL2 rL2 => ?_)
 refine wsr ?_
 refine oV (v_lss rfl rfl) ?_
 refine rnf ?_
 refine w_seq ?_
 refine w_condM h rfl (fun _ h => ?_) (fun _ h => ?_)
 ·
  refine wkf ?_
  refine w_seq ?_
  refine w_block ?_
  refine wsr ?_
  refine oV (v_move rfl) ?_
  refine oV (v_assign rfl) ?_
  refine rnf ?_
  refine wsr ?_
  refine oV (v_move rfl) ?_
  refine oV (v_move rfl) ?_
  refine oV (v_move rfl) ?_
  refine cal_inv h fun y6 hy6 h => ?_
  refine oV (v_ix (l := a_s) rfl (fun _ _ h => h) rfl sl22 hy6) ?_
  refine oV (v_loadI ty9 rfl) ?_
  refine cal_inv h fun y7 hy7 h => ?_
  refine oT (t_callC rfl (.same rfl .nil) (refs_lost_c1_w hy7) hT .nil (fun R H' hR => ?_))
  obtain ⟨rfl, rfl⟩ := hR
  refine rnf ?_
  refine w_condM h rfl (fun _ h => ?_) (fun _ h => ?_)
  ·
   refine wsr ?_
   refine oV (v_move rfl) ?_
   refine oV (v_assign rfl) ?_
   refine rnf ?_
   refine w_ret ?_
   refine ret_block ?_
   refine ret_nxt ?_
   refine rL2 _ ?_
   refine ret_block ?_
   refine ret_nxt ?_
   refine ret_post (.tmp rfl .nil) .nil ?_
   obtain rfl := Option.some.inj h
   exact ⟨rfl, rfl⟩
  ·
   refine w_skip ?_
   refine fin_block ?_
   refine fin_nxt ?_
   refine w_region ?_
   refine ck_inv h fun q8 h => ?_
   refine oV (v_add rfl rfl q8) ?_
   refine oV (v_move rfl) ?_
   refine rl_nil ?_
   exact hL2 _ () h _ (join_imp 12 rfl rfl (mod_cons (j := 8) rfl (fun _ _ h => h) mod_nil) .nil)
 ·
  refine w_exit ?_
  refine exi_nxt ?_
  refine eL2 _ _ ?_
  refine exi_block ?_
  refine fin_nxt ?_
  refine wsr ?_
  refine oV (v_assign rfl) ?_
  refine rnf ?_
  refine w_ret ?_
  refine ret_post (.tmp rfl .nil) .nil ?_
  obtain rfl := Option.some.inj h
  exact ⟨rfl, rfl⟩


theorem slices_ContainsFunc_Lstring_string_w : ∀ {a_s : (List Str)} {a_f_0 : GMod} {r : Bool}, slices_ContainsFunc_Lstring_string a_s a_f_0 = some r → Ctr Tryd.prog 65 [isv (a_s), clov 66 [immv (a_f_0)]] [] (fun R H => R = oneOf [isv (r)] ∧ H = []) := by
 intro a_s a_f_0 r h
 unfold slices_ContainsFunc_Lstring_string at h
 refine spec_intro Tryd.func65 rfl (by decide +kernel) (by rfl) fun w0 S0 hT => ?_
 refine wsr ?_
 refine oV (v_assign rfl) ?_
 refine rnf ?_
 refine wsr ?_
 refine oV (v_move rfl) ?_
 refine oV (v_move rfl) ?_
 refine cal_inv h fun y1 hy1 h => ?_
 refine oT (t_call (slices_IndexFunc_Lstring_string_w hy1) hT (.same rfl (.same rfl .nil)) .nil (fun R H' hR => ?_))
 obtain ⟨rfl, rfl⟩ := hR
 refine oV (v_geq rfl rfl) ?_
 refine oV (v_assign rfl) ?_
 refine rnf ?_
 refine w_ret ?_
 refine ret_post (.tmp rfl .nil) .nil ?_
 obtain rfl := Option.some.inj h
 exact ⟨rfl, rfl⟩


theorem refs_lost_w : ∀ {a_m : GMod} {a_node : Int} {r : Bool}, refs_lost a_m a_node = some r → Ctr Tryd.prog 44 [isv (a_m), isv (a_node)] [] (fun R H => R = oneOf [isv (r)] ∧ H = []) := by
 intro a_m a_node r h
 unfold refs_lost at h
 refine spec_intro Tryd.func44 rfl (by decide +kernel) (by rfl) fun w0 S0 hT => ?_
 refine wsr ?_
 refine oT (t_boxIC (y := a_m) rfl (fun _ _ h => h) ?_)
 refine oV (v_assign rfl) ?_
 refine rnf ?_
 refine wsr ?_
 refine oV (v_loadI ty26 rfl) ?_
 refine oV (v_move rfl) ?_
 refine cal_inv h fun y1 hy1 h => ?_
 refine oT (t_call (refs_refers_w hy1) hT (.same rfl (.same rfl .nil)) .nil (fun R H' hR => ?_))
 obtain ⟨rfl, rfl⟩ := hR
 refine oV (v_makeFunc (.same rfl .nil)) ?_
 refine cal_inv h fun y2 hy2 h => ?_
 refine oT (t_call (slices_ContainsFunc_Lstring_string_w hy2) hT (.same rfl (.same rfl .nil)) .nil (fun R H' hR => ?_))
 obtain ⟨rfl, rfl⟩ := hR
 refine oV (v_assign rfl) ?_
 refine rnf ?_
 refine w_ret ?_
 refine ret_post (.tmp rfl .nil) .nil ?_
 obtain rfl := Option.some.inj h
 exact ⟨rfl, rfl⟩


def refs_reaches_C (f' : (List (List Int)) → Int → (List Bool) → Option ((List Bool))) : Prop :=
 ∀ {a_uses : (List (List Int))} {a_at_ : Int} {a_seen : (List Bool)} {v_a_seen : Vt} {r : (List Bool)}, f' a_uses a_at_ a_seen = some r → Ctr Tryd.prog 45 [isv (a_uses), isv (a_at_), vecv v_a_seen (a_seen.length)] [vecE v_a_seen (a_seen : List Bool)] (fun R H => R = oneOf [] ∧ H = [vecE v_a_seen (r)])
theorem refs_reaches_w0 {refs_reaches' : (List (List Int)) → Int → (List Bool) → Option ((List Bool))} (h_refs_reaches : refs_reaches_C refs_reaches') : ∀ {a_uses : (List (List Int))} {a_at_ : Int} {a_seen : (List Bool)} {v_a_seen : Vt} {r : (List Bool)}, refs_reaches_F refs_reaches' a_uses a_at_ a_seen = some r → Ctr Tryd.prog 45 [isv (a_uses), isv (a_at_), vecv v_a_seen (a_seen.length)] [vecE v_a_seen (a_seen : List Bool)] (fun R H => R = oneOf [] ∧ H = [vecE v_a_seen (r)]) := by
 intro a_uses a_at_ a_seen v_a_seen r h
 unfold refs_reaches_F at h
 refine spec_intro Tryd.func45 rfl (by decide +kernel) (by rfl) fun w0 S0 hT => ?_
 refine wsr ?_
 refine oV (v_move rfl) ?_
 refine oV (v_move rfl) ?_
 refine cal_inv h fun y1 hy1 h => ?_
 refine oV (v_ix (l := a_uses) rfl (fun _ _ h => h) rfl sl57 hy1) ?_
 refine oV (v_loadI ty23 rfl) ?_
 refine oV (v_ln (l := y1) rfl (fun _ _ h => h) sl23) ?_
 refine oV (v_move rfl) ?_
 refine rnf ?_
 refine w_block ?_
 refine w_lp (ι := (List Bool) × Int) (γ := Unit) (fun q2 g2 => [(13, isv (q2.2)), (2, vecv v_a_seen (q2.1.length))]) (fun q2 g2 => [vecE v_a_seen (q2.1 : List Bool)]) h () (mod_cons (j := 13) rfl (fun _ _ h => h) (mod_cons (j := 2) rfl (vecvE (by first | rfl | simp)) mod_nil)) (.cons .here .nil) (fun L3 q2 g2 Q24 h hL3 eL3 rL3 => ?_)
 refine wsr ?_
 refine oV (v_lss rfl rfl) ?_
 refine rnf ?_
 refine w_seq ?_
 refine w_condM h rfl (fun _ h => ?_) (fun _ h => ?_)
 ·
  refine wkf ?_
  refine w_seq ?_
  refine w_J (ι := (List Bool)) (γ := Unit) (fun q14 g14 => [(2, vecv v_a_seen (q14.length))]) (fun q14 g14 => [vecE v_a_seen (q14 : List Bool)]) (.cons .here .nil) h (fun q14 g14 h => ?_) (fun J15 h hJ15 => ?_)
  ·
   refine w_region ?_
   refine ck_inv h fun q23 h => ?_
   refine oV (v_add rfl rfl q23) ?_
   refine oV (v_move rfl) ?_
   refine rl_nil ?_
   exact hL3 _ () h _ (join_imp 6 rfl rfl (mod_cons (j := 13) rfl (fun _ _ h => h) (mod_cons (j := 2) rfl (vecvE (by first | rfl | simp)) mod_nil)) (.cons .here .nil))
  ·
   refine w_block ?_
   refine wsr ?_
   refine cal_inv h fun y16 hy16 h => ?_
   refine oV (v_ix (l := y1) rfl (fun _ _ h => h) rfl sl23 hy16) ?_
   refine oV (v_loadI ty3 rfl) ?_
   refine oV (v_assign rfl) ?_
   refine rnf ?_
   refine wsr ?_
   refine oV (v_move rfl) ?_
   refine oV (v_move rfl) ?_
   refine asd_inv h fun q17 h => ?_
   refine oV (v_vidx (α := Bool) sl88 rfl rfl q17.1 q17.2) ?_
   refine cal_inv h fun y18 hy18 h => ?_
   refine oT (t_vload ty4 rfl .here hy18 ?_)
   refine oV (v_not rfl) ?_
   refine rnf ?_
   refine w_condM h rfl (fun _ h => ?_) (fun _ h => ?_)
   ·
    refine wsr ?_
    refine oV (v_move rfl) ?_
    refine oV (v_move rfl) ?_
    refine asd_inv h fun q19 h => ?_
    refine oV (v_vidx (α := Bool) sl88 rfl rfl q19.1 q19.2) ?_
    refine cal_inv h fun y20 hy20 h => ?_
    refine oT (t_vstore ty4 rfl rfl .here hy20 ?_)
    refine rnf ?_
    refine w_region ?_
    refine oV (v_move rfl) ?_
    refine oV (v_move rfl) ?_
    refine oV (v_move rfl) ?_
    refine cal_inv h fun y21 hy21 h => ?_
    refine oT (t_call (h_refs_reaches hy21) hT (.same rfl (.same rfl (.cons rfl (fun _ _ h => vecvE (by first | rfl | simp) _ _ h) .nil))) (.cons .here .nil) (fun R H' hR => ?_))
    obtain ⟨rfl, rfl⟩ := hR
    refine asd_inv h fun q22 h => ?_
    refine rl_upd (upd_slot 2 rfl (vecvE q22.symm)) ?_
    refine rl_upd (upd_slot 17 rfl (vecvE q22.symm)) ?_
    refine rl_upd (upd_slot 22 rfl (vecvE q22.symm)) ?_
    refine rl_upd (upd_slot 27 rfl (vecvE q22.symm)) ?_
    refine rl_nil ?_
    refine fin_block ?_
    exact hJ15 _ () h _ (join_imp 19 rfl rfl (mod_cons (j := 2) rfl (vecvE (by first | rfl | simp)) mod_nil) (.cons .here .nil))
   ·
    refine w_skip ?_
    refine fin_block ?_
    exact hJ15 _ () h _ (join_imp 8 rfl rfl (mod_cons (j := 2) rfl (vecvE (by first | rfl | simp)) mod_nil) (.cons .here .nil))
 ·
  refine w_exit ?_
  refine exi_nxt ?_
  refine eL3 _ _ ?_
  refine exi_block ?_
  refine fin_post .nil (.cons .here .nil) ?_
  obtain rfl := Option.some.inj h
  exact ⟨rfl, rfl⟩

theorem refs_reaches_grp_w : ∀ n, refs_reaches_C (refs_reaches n)
 | 0 => fun h => (by cases h)
 | n + 1 => refs_reaches_w0 (refs_reaches_grp_w n)
theorem refs_reaches_w (n : Nat) : refs_reaches_C (refs_reaches n) := (refs_reaches_grp_w n)

theorem refs_wrong_w : ∀ {a_m : GMod} {a_uses : (List (List Int))} {r : Int × Int}, refs_wrong a_m a_uses = some r → Ctr Tryd.prog 27 [isv (a_m), isv (a_uses)] [] (fun R H => R = oneOf [isv (r.1), isv (r.2)] ∧ H = []) := by
 intro a_m a_uses r h
 unfold refs_wrong at h
 refine spec_intro Tryd.func27 rfl (by decide +kernel) (by rfl) fun w0 S0 hT => ?_
 refine wsr ?_
 refine oT (t_boxIC (y := a_m) rfl (fun _ _ h => h) ?_)
 refine oV (v_assign rfl) ?_
 refine oV (v_assign rfl) ?_
 refine rnf ?_
 refine w_seq ?_
 refine wsr ?_
 refine oV (v_fi rfl GMod.f2 fd26_2 rfl (z := a_m.names)) ?_
 refine oV (v_loadI ty22 rfl) ?_
 refine oV (v_ln (l := a_m.names) rfl (fun _ _ h => h) sl22) ?_
 refine oV (v_move rfl) ?_
 refine rnf ?_
 refine w_block ?_
 refine w_lp (ι := Int) (γ := Unit) (fun q1 g1 => [(14, isv (q1))]) (fun q1 g1 => []) h () (mod_cons (j := 14) rfl (fun _ _ h => h) mod_nil) .nil (fun L2 q1 g1 Q95 h hL2 eL2 rL2 => ?_)
 refine wsr ?_
 refine oV (v_lss rfl rfl) ?_
 refine rnf ?_
 refine w_seq ?_
 refine w_condM h rfl (fun _ h => ?_) (fun _ h => ?_)
 ·
  refine wkf ?_
  refine w_seq ?_
  refine w_block ?_
  refine wsr ?_
  refine oV (v_move rfl) ?_
  refine cal_inv h fun y49 hy49 h => ?_
  refine oV (v_ix (l := a_m.names) rfl (fun _ _ h => h) rfl sl22 hy49) ?_
  refine oV (v_loadI ty9 rfl) ?_
  refine oV (v_assign rfl) ?_
  refine oV (v_assign rfl) ?_
  refine rnf ?_
  refine wsr ?_
  refine oV (v_loadI ty26 rfl) ?_
  refine oV (v_move rfl) ?_
  refine cal_inv h fun y50 hy50 h => ?_
  refine oT (t_call (refs_Find_w hy50) hT (.same rfl (.same rfl .nil)) .nil (fun R H' hR => ?_))
  obtain ⟨rfl, rfl⟩ := hR
  refine oV (v_move rfl) ?_
  refine oV (v_lss rfl rfl) ?_
  refine rnf ?_
  refine w_condM h rfl (fun _ h => ?_) (fun _ h => ?_)
  ·
   refine wsr ?_
   refine oV (v_move rfl) ?_
   refine oV (v_assign rfl) ?_
   refine oV (v_assign rfl) ?_
   refine rnf ?_
   refine w_ret ?_
   refine ret_block ?_
   refine ret_nxt ?_
   refine rL2 _ ?_
   refine ret_block ?_
   refine ret_nxt ?_
   refine ret_post (.tmp rfl (.tmp rfl .nil)) .nil ?_
   obtain rfl := Option.some.inj h
   exact ⟨rfl, rfl⟩
  ·
   refine w_skip ?_
   refine fin_block ?_
   refine fin_nxt ?_
   refine w_region ?_
   refine ck_inv h fun q51 h => ?_
   refine oV (v_add rfl rfl q51) ?_
   refine oV (v_move rfl) ?_
   refine rl_nil ?_
   exact hL2 _ () h _ (join_imp 14 rfl rfl (mod_cons (j := 14) rfl (fun _ _ h => h) mod_nil) .nil)
 ·
  refine w_exit ?_
  refine exi_nxt ?_
  refine eL2 _ _ ?_
  refine exi_block ?_
  refine fin_nxt ?_
  refine w_seq ?_
  refine wsr ?_
  refine oV (v_fi rfl GMod.f2 fd26_2 rfl (z := a_m.names)) ?_
  refine oV (v_loadI ty22 rfl) ?_
  refine oV (v_ln (l := a_m.names) rfl (fun _ _ h => h) sl22) ?_
  refine oV (v_move rfl) ?_
  refine rnf ?_
  refine w_block ?_
  refine w_lp (ι := Int) (γ := Unit) (fun q52 g52 => [(29, isv (q52))]) (fun q52 g52 => []) h () (mod_cons (j := 29) rfl (fun _ _ h => h) mod_nil) .nil (fun L53 q52 g52 Q94 h hL53 eL53 rL53 => ?_)
  refine wsr ?_
  refine oV (v_lss rfl rfl) ?_
  refine rnf ?_
  refine w_seq ?_
  refine w_condM h rfl (fun _ h => ?_) (fun _ h => ?_)
  ·
   refine wkf ?_
   refine w_seq ?_
   refine w_block ?_
   refine wsr ?_
   refine oV (v_move rfl) ?_
   refine oV (v_assign rfl) ?_
   refine rnf ?_
   refine w_seq ?_
   refine w_regionD (.v 0 (.v 1 (.v 2 (.t 3 (.t 4 .nil))))) moOrd (by kernel_rfl) ?_
   refine rd_v rfl (v_loadI ty26 rfl) ?_
   refine rd_v rfl (v_loadI ty26 rfl) ?_
   refine rd_v rfl (v_move rfl) ?_
   refine cal_inv h fun y74 hy74 h => ?_
   refine rd_t rfl rfl (t_call (refs_of_w hy74) hT (.same rfl (.same rfl .nil)) .nil (fun R H' hR => ?_))
   obtain ⟨rfl, rfl⟩ := hR
   refine cal_inv h fun y75 hy75 h => ?_
   refine rd_t rfl rfl (t_call (refs_lost_w hy75) hT (.same rfl (.same rfl .nil)) .nil (fun R H' hR => ?_))
   obtain ⟨rfl, rfl⟩ := hR
   refine rd_nil ?_
   refine fin_nxt ?_
   refine w_condM h rfl (fun _ h => ?_) (fun _ h => ?_)
   ·
    refine wsr ?_
    refine oV (v_move rfl) ?_
    refine oV (v_assign rfl) ?_
    refine oV (v_assign rfl) ?_
    refine rnf ?_
    refine w_ret ?_
    refine ret_block ?_
    refine ret_nxt ?_
    refine rL53 _ ?_
    refine ret_block ?_
    refine ret_nxt ?_
    refine ret_post (.tmp rfl (.tmp rfl .nil)) .nil ?_
    obtain rfl := Option.some.inj h
    exact ⟨rfl, rfl⟩
   ·
    refine w_skip ?_
    refine fin_block ?_
    refine fin_nxt ?_
    refine w_region ?_
    refine ck_inv h fun q76 h => ?_
    refine oV (v_add rfl rfl q76) ?_
    refine oV (v_move rfl) ?_
    refine rl_nil ?_
    exact hL53 _ () h _ (join_imp 11 rfl rfl (mod_cons (j := 29) rfl (fun _ _ h => h) mod_nil) .nil)
  ·
   refine w_exit ?_
   refine exi_nxt ?_
   refine eL53 _ _ ?_
   refine exi_block ?_
   refine fin_nxt ?_
   refine w_seq ?_
   refine wsr ?_
   refine oV (v_fi rfl GMod.f2 fd26_2 rfl (z := a_m.names)) ?_
   refine oV (v_loadI ty22 rfl) ?_
   refine oV (v_ln (l := a_m.names) rfl (fun _ _ h => h) sl22) ?_
   refine oV (v_move rfl) ?_
   refine rnf ?_
   refine w_block ?_
   refine w_lp (ι := Int) (γ := Unit) (fun q77 g77 => [(42, isv (q77))]) (fun q77 g77 => []) h () (mod_cons (j := 42) rfl (fun _ _ h => h) mod_nil) .nil (fun L78 q77 g77 Q93 h hL78 eL78 rL78 => ?_)
   refine wsr ?_
   refine oV (v_lss rfl rfl) ?_
   refine rnf ?_
   refine w_seq ?_
   refine w_condM h rfl (fun _ h => ?_) (fun _ h => ?_)
   ·
    refine wkf ?_
    refine w_seq ?_
    refine w_block ?_
    refine wsr ?_
    refine oV (v_move rfl) ?_
    refine oV (v_assign rfl) ?_
    refine rnf ?_
    refine wsr ?_
    refine oV (v_fi rfl GMod.f2 fd26_2 rfl (z := a_m.names)) ?_
    refine oV (v_loadI ty22 rfl) ?_
    refine oV (v_ln (l := a_m.names) rfl (fun _ _ h => h) sl22) ?_
    refine asd_inv h fun q86 h => ?_
    refine oT (t_makeVec el88 ze4 Tryd.underlying88 rfl rfl q86.1 rfl q86.2 fun v87 => ?_)
    refine oV (v_assign rfl) ?_
    refine rnf ?_
    refine wsr ?_
    refine oV (v_move rfl) ?_
    refine oV (v_move rfl) ?_
    refine oV (v_move rfl) ?_
    refine cal_inv h fun y88 hy88 h => ?_
    refine oT (t_call (refs_reaches_w fuel hy88) hT (.same rfl (.same rfl (.cons rfl (fun _ _ h => vecvE (by first | rfl | simp) _ _ h) .nil))) (.cons .here .nil) (fun R H' hR => ?_))
    obtain ⟨rfl, rfl⟩ := hR
    refine asd_inv h fun q89 h => ?_
    refine rl_upd (upd_slot 48 rfl (vecvE q89.symm)) ?_
    refine rl_upd (upd_slot 10 rfl (vecvE q89.symm)) ?_
    refine rl_upd (upd_slot 51 rfl (vecvE q89.symm)) ?_
    refine rnf ?_
    refine wsr ?_
    refine oV (v_move rfl) ?_
    refine oV (v_move rfl) ?_
    refine asd_inv h fun q90 h => ?_
    refine oV (v_vidx (α := Bool) sl88 rfl rfl q90.1 q90.2) ?_
    refine cal_inv h fun y91 hy91 h => ?_
    refine oT (t_vload ty4 rfl .here hy91 ?_)
    refine rnf ?_
    refine w_condM h rfl (fun _ h => ?_) (fun _ h => ?_)
    ·
     refine wsr ?_
     refine oV (v_move rfl) ?_
     refine oV (v_assign rfl) ?_
     refine oV (v_assign rfl) ?_
     refine rnf ?_
     refine w_ret ?_
     refine ret_block ?_
     refine ret_nxt ?_
     refine rL78 _ ?_
     refine ret_block ?_
     refine ret_nxt ?_
     refine ret_post (.tmp rfl (.tmp rfl .nil)) .nil ?_
     obtain rfl := Option.some.inj h
     exact ⟨rfl, rfl⟩
    ·
     refine w_skip ?_
     refine fin_block ?_
     refine fin_nxt ?_
     refine w_region ?_
     refine ck_inv h fun q92 h => ?_
     refine oV (v_add rfl rfl q92) ?_
     refine oV (v_move rfl) ?_
     refine rl_nil ?_
     exact hL78 _ () h _ (join_imp 22 rfl rfl (mod_cons (j := 42) rfl (fun _ _ h => h) mod_nil) .nil)
   ·
    refine w_exit ?_
    refine exi_nxt ?_
    refine eL78 _ _ ?_
    refine exi_block ?_
    refine fin_nxt ?_
    refine wsr ?_
    refine oV (v_assign rfl) ?_
    refine oV (v_assign rfl) ?_
    refine rnf ?_
    refine w_ret ?_
    refine ret_post (.tmp rfl (.tmp rfl .nil)) .nil ?_
    obtain rfl := Option.some.inj h
    exact ⟨rfl, rfl⟩


theorem slices_Index_Lint_int_w : ∀ {a_s : (List Int)} {a_v : Int} {r : Int}, slices_Index_Lint_int a_s a_v = some r → Ctr Tryd.prog 46 [isv (a_s), isv (a_v)] [] (fun R H => R = oneOf [isv (r)] ∧ H = []) := by
 intro a_s a_v r h
 unfold slices_Index_Lint_int at h
 refine spec_intro Tryd.func46 rfl (by decide +kernel) (by rfl) fun w0 S0 hT => ?_
 refine wsr ?_
 refine oV (v_assign rfl) ?_
 refine rnf ?_
 refine w_seq ?_
 refine wsr ?_
 refine oV (v_move rfl) ?_
 refine oV (v_ln (l := a_s) rfl (fun _ _ h => h) sl23) ?_
 refine oV (v_move rfl) ?_
 refine rnf ?_
 refine w_block ?_
 refine w_lp (ι := Int) (γ := Unit) (fun q1 g1 => [(8, isv (q1))]) (fun q1 g1 => []) h () (mod_cons (j := 8) rfl (fun _ _ h => h) mod_nil) .nil (fun L2 q1 g1 Q7 h hL2 eL2 rL2 => ?_)
 refine wsr ?_
 refine oV (v_lss rfl rfl) ?_
 refine rnf ?_
 refine w_seq ?_
 refine w_condM h rfl (fun _ h => ?_) (fun _ h => ?_)
 ·
  refine wkf ?_
  refine w_seq ?_
  refine w_block ?_
  refine wsr ?_
  refine oV (v_move rfl) ?_
  refine oV (v_assign rfl) ?_
  refine rnf ?_
  refine wsr ?_
  refine oV (v_move rfl) ?_
  refine oV (v_move rfl) ?_
  refine oV (v_move rfl) ?_
  refine cal_inv h fun y5 hy5 h => ?_
  refine oV (v_ix (l := a_s) rfl (fun _ _ h => h) rfl sl23 hy5) ?_
  refine oV (v_loadI ty3 rfl) ?_
  refine oV (v_eql rfl rfl) ?_
  refine rnf ?_
  refine w_condM h rfl (fun _ h => ?_) (fun _ h => ?_)
  ·
   refine wsr ?_
   refine oV (v_move rfl) ?_
   refine oV (v_assign rfl) ?_
   refine rnf ?_
   refine w_ret ?_
   refine ret_block ?_
   refine ret_nxt ?_
   refine rL2 _ ?_
   refine ret_block ?_
   refine ret_nxt ?_
   refine ret_post (.tmp rfl .nil) .nil ?_
   obtain rfl := Option.some.inj h
   exact ⟨rfl, rfl⟩
  ·
   refine w_skip ?_
   refine fin_block ?_
   refine fin_nxt ?_
   refine w_region ?_
   refine ck_inv h fun q6 h => ?_
   refine oV (v_add rfl rfl q6) ?_
   refine oV (v_move rfl) ?_
   refine rl_nil ?_
   exact hL2 _ () h _ (join_imp 12 rfl rfl (mod_cons (j := 8) rfl (fun _ _ h => h) mod_nil) .nil)
 ·
  refine w_exit ?_
  refine exi_nxt ?_
  refine eL2 _ _ ?_
  refine exi_block ?_
  refine fin_nxt ?_
  refine wsr ?_
  refine oV (v_assign rfl) ?_
  refine rnf ?_
  refine w_ret ?_
  refine ret_post (.tmp rfl .nil) .nil ?_
  obtain rfl := Option.some.inj h
  exact ⟨rfl, rfl⟩


theorem slices_Contains_Lint_int_w : ∀ {a_s : (List Int)} {a_v : Int} {r : Bool}, slices_Contains_Lint_int a_s a_v = some r → Ctr Tryd.prog 28 [isv (a_s), isv (a_v)] [] (fun R H => R = oneOf [isv (r)] ∧ H = []) := by
 intro a_s a_v r h
 unfold slices_Contains_Lint_int at h
 refine spec_intro Tryd.func28 rfl (by decide +kernel) (by rfl) fun w0 S0 hT => ?_
 refine wsr ?_
 refine oV (v_assign rfl) ?_
 refine rnf ?_
 refine wsr ?_
 refine oV (v_move rfl) ?_
 refine oV (v_move rfl) ?_
 refine cal_inv h fun y1 hy1 h => ?_
 refine oT (t_call (slices_Index_Lint_int_w hy1) hT (.same rfl (.same rfl .nil)) .nil (fun R H' hR => ?_))
 obtain ⟨rfl, rfl⟩ := hR
 refine oV (v_geq rfl rfl) ?_
 refine oV (v_assign rfl) ?_
 refine rnf ?_
 refine w_ret ?_
 refine ret_post (.tmp rfl .nil) .nil ?_
 obtain rfl := Option.some.inj h
 exact ⟨rfl, rfl⟩


theorem refs_Order_c1_w : ∀ {a_k : Int} {a_a1 : (List Int)} {b_a_a1 : Nat} {t_a_a11 : Tok} {r : Bool × (List Int)}, refs_Order_c1 a_k a_a1 = some r → Ctr Tryd.prog 30 [isv (a_k), ptrv b_a_a1 (Fld.id (TList Int))] [boxE b_a_a1 ((TList.mk t_a_a11 a_a1) : (TList Int)), tokE t_a_a11] (fun R H => ∃ u1 : Tok, R = oneOf [isv (r.1)] ∧ H = [boxE b_a_a1 ((TList.mk u1 r.2)), tokE u1]) := by
 intro a_k a_a1 b_a_a1 t_a_a11 r h
 unfold refs_Order_c1 at h
 refine spec_intro Tryd.func30 rfl (by decide +kernel) (by rfl) fun w0 S0 hT => ?_
 refine wsr ?_
 refine oV (v_assign rfl) ?_
 refine rnf ?_
 refine wsr ?_
 refine oT (t_loadC (R := appv t_a_a11 (a_a1)) ty23 rfl .here isvT1 ?_)
 refine oV (v_move rfl) ?_
 refine cal_inv h fun y2 hy2 h => ?_
 refine oT (t_call (slices_Contains_Lint_int_w hy2) hT (.cons rfl appv_isv (.same rfl .nil)) .nil (fun R H' hR => ?_))
 obtain ⟨rfl, rfl⟩ := hR
 refine oV (v_not rfl) ?_
 refine oV (v_assign rfl) ?_
 refine rnf ?_
 refine w_ret ?_
 refine ret_post (.tmp rfl .nil) (.cons .here (.cons .here .nil)) ?_
 obtain rfl := Option.some.inj h
 exact ⟨t_a_a11, rfl, rfl⟩


theorem slices_IndexFunc_Lint_int_w : ∀ {a_s : (List Int)} {a_f_0 : (List Int)} {b_a_f_0 : Nat} {t_a_f_01 : Tok} {r : Int × (List Int)}, slices_IndexFunc_Lint_int a_s a_f_0 = some r → Ctr Tryd.prog 47 [isv (a_s), clov 30 [ptrv b_a_f_0 (Fld.id (TList Int))]] [boxE b_a_f_0 ((TList.mk t_a_f_01 a_f_0) : (TList Int)), tokE t_a_f_01] (fun R H => ∃ u1 : Tok, R = oneOf [isv (r.1)] ∧ H = [boxE b_a_f_0 ((TList.mk u1 r.2)), tokE u1]) := by
 intro a_s a_f_0 b_a_f_0 t_a_f_01 r h
 unfold slices_IndexFunc_Lint_int at h
 refine spec_intro Tryd.func47 rfl (by decide +kernel) (by rfl) fun w0 S0 hT => ?_
 refine wsr ?_
 refine oV (v_assign rfl) ?_
 refine rnf ?_
 refine w_seq ?_
 refine wsr ?_
 refine oV (v_move rfl) ?_
 refine oV (v_ln (l := a_s) rfl (fun _ _ h => h) sl23) ?_
 refine oV (v_move rfl) ?_
 refine rnf ?_
 refine w_block ?_
 refine w_lp (ι := Int × (List Int)) (γ := Tok) (fun q2 g2 => [(8, isv (q2.1))]) (fun q2 g2 => [boxE b_a_f_0 ((TList.mk g2 q2.2) : (TList Int)), tokE g2]) h (t_a_f_01) (mod_cons (j := 8) rfl (fun _ _ h => h) mod_nil) (.cons .here (.cons .here .nil)) (fun L3 q2 g2 Q12 h hL3 eL3 rL3 => ?_)
 refine wsr ?_
 refine oV (v_lss rfl rfl) ?_
 refine rnf ?_
 refine w_seq ?_
 refine w_condM h rfl (fun _ h => ?_) (fun _ h => ?_)
 ·
  refine wkf ?_
  refine w_seq ?_
  refine w_block ?_
  refine wsr ?_
  refine oV (v_move rfl) ?_
  refine oV (v_assign rfl) ?_
  refine rnf ?_
  refine wsr ?_
  refine oV (v_move rfl) ?_
  refine oV (v_move rfl) ?_
  refine oV (v_move rfl) ?_
  refine cal_inv h fun y8 hy8 h => ?_
  refine oV (v_ix (l := a_s) rfl (fun _ _ h => h) rfl sl23 hy8) ?_
  refine oV (v_loadI ty3 rfl) ?_
  refine cal_inv h fun y9 hy9 h => ?_
  refine oT (t_callC rfl (.same rfl .nil) (refs_Order_c1_w hy9) hT (.cons .here (.cons .here .nil)) (fun R H' hR => ?_))
  obtain ⟨t10, rfl, rfl⟩ := hR
  refine rnf ?_
  refine w_condM h rfl (fun _ h => ?_) (fun _ h => ?_)
  ·
   refine wsr ?_
   refine oV (v_move rfl) ?_
   refine oV (v_assign rfl) ?_
   refine rnf ?_
   refine w_ret ?_
   refine ret_block ?_
   refine ret_nxt ?_
   refine rL3 _ ?_
   refine ret_block ?_
   refine ret_nxt ?_
   refine ret_post (.tmp rfl .nil) (.cons .here (.cons .here .nil)) ?_
   obtain rfl := Option.some.inj h
   exact ⟨t10, rfl, rfl⟩
  ·
   refine w_skip ?_
   refine fin_block ?_
   refine fin_nxt ?_
   refine w_region ?_
   refine ck_inv h fun q11 h => ?_
   refine oV (v_add rfl rfl q11) ?_
   refine oV (v_move rfl) ?_
   refine rl_nil ?_
   exact hL3 _ (t10) h _ (join_imp 12 rfl rfl (mod_cons (j := 8) rfl (fun _ _ h => h) mod_nil) (.cons .here (.cons .here .nil)))
 ·
  refine w_exit ?_
  refine exi_nxt ?_
  refine eL3 _ _ ?_
  refine exi_block ?_
  refine fin_nxt ?_
  refine wsr ?_
  refine oV (v_assign rfl) ?_
  refine rnf ?_
  refine w_ret ?_
  refine ret_post (.tmp rfl .nil) (.cons .here (.cons .here .nil)) ?_
  obtain rfl := Option.some.inj h
  exact ⟨g2, rfl, rfl⟩


theorem slices_ContainsFunc_Lint_int_w : ∀ {a_s : (List Int)} {a_f_0 : (List Int)} {b_a_f_0 : Nat} {t_a_f_01 : Tok} {r : Bool × (List Int)}, slices_ContainsFunc_Lint_int a_s a_f_0 = some r → Ctr Tryd.prog 29 [isv (a_s), clov 30 [ptrv b_a_f_0 (Fld.id (TList Int))]] [boxE b_a_f_0 ((TList.mk t_a_f_01 a_f_0) : (TList Int)), tokE t_a_f_01] (fun R H => ∃ u1 : Tok, R = oneOf [isv (r.1)] ∧ H = [boxE b_a_f_0 ((TList.mk u1 r.2)), tokE u1]) := by
 intro a_s a_f_0 b_a_f_0 t_a_f_01 r h
 unfold slices_ContainsFunc_Lint_int at h
 refine spec_intro Tryd.func29 rfl (by decide +kernel) (by rfl) fun w0 S0 hT => ?_
 refine wsr ?_
 refine oV (v_assign rfl) ?_
 refine rnf ?_
 refine wsr ?_
 refine oV (v_move rfl) ?_
 refine oV (v_move rfl) ?_
 refine cal_inv h fun y2 hy2 h => ?_
 refine oT (t_call (slices_IndexFunc_Lint_int_w hy2) hT (.same rfl (.same rfl .nil)) (.cons .here (.cons .here .nil)) (fun R H' hR => ?_))
 obtain ⟨t3, rfl, rfl⟩ := hR
 refine oV (v_geq rfl rfl) ?_
 refine oV (v_assign rfl) ?_
 refine rnf ?_
 refine w_ret ?_
 refine ret_post (.tmp rfl .nil) (.cons .here (.cons .here .nil)) ?_
 obtain rfl := Option.some.inj h
 exact ⟨t3, rfl, rfl⟩


theorem refs_Order_w : ∀ {a_m : GMod} {r : (List Int) × Int × Int}, refs_Order a_m = some r → Ctr Tryd.prog 10 [isv (a_m)] [] (fun R H => R = oneOf [isv (r.1), isv (r.2.1), isv (r.2.2)] ∧ H = []) := by
 intro a_m r h
 unfold refs_Order at h
 refine spec_intro Tryd.func10 rfl (by decide +kernel) (by rfl) fun w0 S0 hT => ?_
 refine wsr ?_
 refine oT (t_boxIC (y := a_m) rfl (fun _ _ h => h) ?_)
 refine oV (v_assign rfl) ?_
 refine oV (v_assign rfl) ?_
 refine oV (v_assign rfl) ?_
 refine rnf ?_
 refine wsr ?_
 refine oV (v_assign rfl) ?_
 refine rnf ?_
 refine w_seq ?_
 refine wsr ?_
 refine oV (v_fi rfl GMod.f2 fd26_2 rfl (z := a_m.names)) ?_
 refine oV (v_loadI ty22 rfl) ?_
 refine oV (v_ln (l := a_m.names) rfl (fun _ _ h => h) sl22) ?_
 refine oV (v_move rfl) ?_
 refine rnf ?_
 refine w_block ?_
 refine w_upd (upd_tok) ?_
 refine w_lp (ι := (List (List Int)) × Int) (γ := Tok) (fun q1 g1 => [(5, appv g1 (q1.1)), (14, isv (q1.2))]) (fun q1 g1 => [tokE g1]) h (none) (mod_cons (j := 5) rfl nilv_appv (mod_cons (j := 14) rfl (fun _ _ h => h) mod_nil)) (.cons .here .nil) (fun L2 q1 g1 Q128 h hL2 eL2 rL2 => ?_)
 refine wsr ?_
 refine oV (v_lss rfl rfl) ?_
 refine rnf ?_
 refine w_seq ?_
 refine w_condM h rfl (fun _ h => ?_) (fun _ h => ?_)
 ·
  refine wkf ?_
  refine w_seq ?_
  refine w_block ?_
  refine wsr ?_
  refine oV (v_move rfl) ?_
  refine oV (v_assign rfl) ?_
  refine rnf ?_
  refine w_regionD (.v 0 (.v 1 (.v 2 (.v 3 (.t 4 (.t 5 (.t 6 (.t 7 (.v 8 .nil))))))))) moOrd (by kernel_rfl) ?_
  refine rd_v rfl (v_move rfl) ?_
  refine rd_v rfl (v_loadI ty26 rfl) ?_
  refine rd_v rfl (v_loadI ty26 rfl) ?_
  refine rd_v rfl (v_move rfl) ?_
  refine cal_inv h fun y65 hy65 h => ?_
  refine rd_t rfl rfl (t_call (refs_of_w hy65) hT (.same rfl (.same rfl .nil)) .nil (fun R H' hR => ?_))
  obtain ⟨rfl, rfl⟩ := hR
  refine cal_inv h fun y66 hy66 h => ?_
  refine rd_t rfl rfl (t_call (refs_Uses_w hy66) hT (.same rfl (.same rfl .nil)) .nil (fun R H' hR => ?_))
  obtain ⟨rfl, rfl⟩ := hR
  refine rd_t rfl rfl (t_buildSlice (l := ([y66] : (List (List Int)))) el57 (.cons rfl (fun _ _ h => h) .nil) rfl rfl ?_)
  refine asr_inv h fun q69 h => ?_
  refine rd_t rfl rfl (t_appC (l := q1.1) (m := ([y66] : (List (List Int)))) ap57_57 rfl (fun _ _ h => h) rfl appv_isv .here q69 fun t68 => ?_)
  refine rd_v rfl (v_assign rfl) ?_
  refine rd_nil ?_
  refine fin_block ?_
  refine fin_nxt ?_
  refine w_region ?_
  refine ck_inv h fun q70 h => ?_
  refine oV (v_add rfl rfl q70) ?_
  refine oV (v_move rfl) ?_
  refine rl_nil ?_
  exact hL2 _ (t68) h _ (join_imp 16 rfl rfl (mod_cons (j := 5) rfl (fun _ _ h => h) (mod_cons (j := 14) rfl (fun _ _ h => h) mod_nil)) (.cons .here .nil))
 ·
  refine w_exit ?_
  refine exi_nxt ?_
  refine eL2 _ _ ?_
  refine exi_block ?_
  refine fin_nxt ?_
  refine w_seq ?_
  refine wsr ?_
  refine oV (v_loadI ty26 rfl) ?_
  refine oV (v_move rfl) ?_
  refine cal_inv h fun y71 hy71 h => ?_
  refine oT (t_call (refs_wrong_w hy71) hT (.same rfl (.cons rfl appv_isv .nil)) .nil (fun R H' hR => ?_))
  obtain ⟨rfl, rfl⟩ := hR
  refine oV (v_move rfl) ?_
  refine oV (v_extract rfl rfl) ?_
  refine oV (v_extract rfl rfl) ?_
  refine oV (v_assign rfl) ?_
  refine oV (v_assign rfl) ?_
  refine rnf ?_
  refine wsr ?_
  refine oV (v_move rfl) ?_
  refine oV (v_neq rfl rfl) ?_
  refine rnf ?_
  refine w_condM h rfl (fun _ h => ?_) (fun _ h => ?_)
  ·
   refine wsr ?_
   refine oV (v_move rfl) ?_
   refine oV (v_move rfl) ?_
   refine oV (v_assign rfl) ?_
   refine oV (v_assign rfl) ?_
   refine oV (v_assign rfl) ?_
   refine rnf ?_
   refine w_ret ?_
   refine ret_nxt ?_
   refine ret_post (.as rfl (nilv_isv (α := Int)) (.tmp rfl (.tmp rfl .nil))) .nil ?_
   obtain rfl := Option.some.inj h
   exact ⟨rfl, rfl⟩
  ·
   refine wkf ?_
   refine wsr ?_
   refine oT (t_alloc _ zt23_3 fun b72 => ?_)
   refine rl_upd (upd_tok) ?_
   refine rnf ?_
   refine w_seq ?_
   refine w_block ?_
   refine w_lp (ι := (List Int)) (γ := Tok) (fun q74 g74 => []) (fun q74 g74 => [boxE b72 ((TList.mk g74 q74) : (TList Int)), tokE g74]) h (none) mod_nil (.cons (.there .here) (.cons .here .nil)) (fun L75 q74 g74 Q126 h hL75 eL75 rL75 => ?_)
   refine w_seq ?_
   refine wsr ?_
   refine oT (t_loadC (R := appv g74 (q74)) ty23 rfl .here isvT1 ?_)
   refine oV (v_ln (l := q74) rfl appv_isv sl23) ?_
   refine oV (v_fi rfl GMod.f2 fd26_2 rfl (z := a_m.names)) ?_
   refine oV (v_loadI ty22 rfl) ?_
   refine oV (v_ln (l := a_m.names) rfl (fun _ _ h => h) sl22) ?_
   refine oV (v_lss rfl rfl) ?_
   refine rnf ?_
   refine w_condM h rfl (fun _ h => ?_) (fun _ h => ?_)
   ·
    refine wkf ?_
    refine w_block ?_
    refine wsr ?_
    refine oV (v_fi rfl GMod.f2 fd26_2 rfl (z := a_m.names)) ?_
    refine oV (v_loadI ty22 rfl) ?_
    refine oV (v_ln (l := a_m.names) rfl (fun _ _ h => h) sl22) ?_
    refine oV (v_move rfl) ?_
    refine rnf ?_
    refine w_block ?_
    refine w_lp (ι := Int × (List Int)) (γ := Tok) (fun q101 g101 => [(45, isv (q101.1))]) (fun q101 g101 => [boxE b72 ((TList.mk g101 q101.2) : (TList Int)), tokE g101]) h (g74) (mod_cons (j := 45) rfl (fun _ _ h => h) mod_nil) (.cons .here (.cons .here .nil)) (fun L102 q101 g101 Q125 h hL102 eL102 rL102 => ?_)
    refine wsr ?_
    refine oV (v_lss rfl rfl) ?_
    refine rnf ?_
    refine w_seq ?_
    refine w_condM h rfl (fun _ h => ?_) (fun _ h => ?_)
    ·
     refine wkf ?_
     refine w_seq ?_
     refine w_block ?_
     refine wsr ?_
     refine oV (v_move rfl) ?_
     refine oV (v_assign rfl) ?_
     refine rnf ?_
     refine wsr ?_
     refine oT (t_loadC (R := appv g101 (q101.2)) ty23 rfl .here isvT1 ?_)
     refine oV (v_move rfl) ?_
     refine cal_inv h fun y114 hy114 h => ?_
     refine oT (t_call (slices_Contains_Lint_int_w hy114) hT (.cons rfl appv_isv (.same rfl .nil)) .nil (fun R H' hR => ?_))
     obtain ⟨rfl, rfl⟩ := hR
     refine oV (v_not rfl) ?_
     refine oV (v_move rfl) ?_
     refine rl_j (ι := Bool × (List Int)) (γ := Tok) (fun q115 g115 => [(60, isv (q115.1))]) (fun q115 g115 => [boxE b72 ((TList.mk g115 q115.2) : (TList Int)), tokE g115]) (.cons .here (.cons .here .nil)) h 8 rfl (fun q115 g115 h => ?_) (fun J116 h hJ116 => ?_)
     ·
      refine rnf ?_
      refine w_condM h rfl (fun _ h => ?_) (fun _ h => ?_)
      ·
       refine wsr ?_
       refine oT (t_loadC (R := appv g115 (q115.2)) ty23 rfl .here isvT1 ?_)
       refine oV (v_move rfl) ?_
       refine oT (t_buildSlice (l := ([q101.1] : (List Int))) el23 (.cons rfl (fun _ _ h => h) .nil) rfl rfl ?_)
       refine asr_inv h fun q123 h => ?_
       refine oT (t_appC (l := q115.2) (m := ([q101.1] : (List Int))) ap23_23 rfl (fun _ _ h => h) rfl appv_isv (.there .here) q123 fun t122 => ?_)
       refine oT (t_storeC (y' := ((TList.mk t122 (q115.2 ++ ([q101.1] : (List Int)))) : (TList Int))) ty23 rfl rfl isvT2 (.there .here) rfl ?_)
       refine rnf ?_
       refine w_exit ?_
       refine exi_pass rfl ?_
       refine exi_nxt ?_
       refine eL102 _ _ ?_
       refine exi_block ?_
       refine fin_block ?_
       exact hL75 _ (t122) h _ (join_imp 24 rfl rfl mod_nil (.cons .here (.cons .here (.cons .here .nil))))
      ·
       refine w_skip ?_
       refine fin_block ?_
       refine fin_nxt ?_
       refine w_region ?_
       refine ck_inv h fun q124 h => ?_
       refine oV (v_add rfl rfl q124) ?_
       refine oV (v_move rfl) ?_
       refine rl_nil ?_
       exact hL102 _ (g115) h _ (join_imp 12 rfl rfl (mod_cons (j := 45) rfl (fun _ _ h => h) mod_nil) (.cons .here (.cons .here (.cons .here .nil))))
     ·
      refine rl_condM (j := 52) h rfl (fun g117 h => ?_) (fun g117 h => ?_)
      ·
       refine op_take rfl rfl (dj := 52) rfl g117 (OpV.t (v_move rfl) ?_)
       refine op_take rfl rfl (dj := 52) rfl g117 (OpV.t (v_move rfl) ?_)
       refine cal_inv h fun y118 hy118 h => ?_
       refine op_take rfl rfl (dj := 52) rfl g117 (OpV.t (v_ix (l := q1.1) rfl appv_isv rfl sl57 hy118) ?_)
       refine op_take rfl rfl (dj := 52) rfl g117 (OpV.t (v_loadI ty23 rfl) ?_)
       refine op_take rfl rfl (dj := 52) rfl g117 (OpV.t (v_makeFunc (.same rfl .nil)) ?_)
       refine cal_inv h fun y119 hy119 h => ?_
       refine op_take rfl rfl (dj := 52) rfl g117 (t_call (slices_ContainsFunc_Lint_int_w hy119) hT (.same rfl (.same rfl .nil)) (.cons .here (.cons .here .nil)) (fun R H' hR => ?_))
       obtain ⟨t120, rfl, rfl⟩ := hR
       refine op_take rfl rfl (dj := 52) rfl g117 (OpV.t (v_not rfl) ?_)
       refine oV (v_pick_t rfl g117 rfl) ?_
       exact hJ116 _ (t120) h _ (join_imp 8 rfl rfl (mod_cons (j := 60) rfl (fun _ _ h => h) mod_nil) (.cons .here (.cons .here (.cons .here .nil))))
      ·
       refine op_pass rfl (dj := 52) rfl g117 ?_
       refine op_pass rfl (dj := 52) rfl g117 ?_
       refine op_pass rfl (dj := 52) rfl g117 ?_
       refine op_pass rfl (dj := 52) rfl g117 ?_
       refine op_pass rfl (dj := 52) rfl g117 ?_
       refine op_pass rfl (dj := 52) rfl g117 ?_
       refine op_pass rfl (dj := 52) rfl g117 ?_
       refine oV (v_pick_f rfl g117 rfl) ?_
       exact hJ116 _ (g101) h _ (join_imp 8 rfl rfl (mod_cons (j := 60) rfl (fun _ _ h => h) mod_nil) (.cons .here (.cons .here (.cons .here .nil))))
    ·
     refine w_exit ?_
     refine exi_nxt ?_
     refine eL102 _ _ ?_
     refine exi_block ?_
     refine fin_block ?_
     exact hL75 _ (g101) h _ (join_imp 12 rfl rfl mod_nil (.cons .here (.cons .here (.cons .here .nil))))
   ·
    refine w_exit ?_
    refine exi_nxt ?_
    refine eL75 _ _ ?_
    refine exi_block ?_
    refine fin_nxt ?_
    refine wsr ?_
    refine oT (t_loadC (R := appv g74 (q74)) ty23 rfl .here isvT1 ?_)
    refine oV (v_assign rfl) ?_
    refine oV (v_assign rfl) ?_
    refine oV (v_assign rfl) ?_
    refine rnf ?_
    refine w_ret ?_
    refine ret_post (.as rfl appv_isv (.tmp rfl (.tmp rfl .nil))) .nil ?_
    obtain rfl := Option.some.inj h
    exact ⟨rfl, rfl⟩


theorem law07_awake_w : ∀  {r : Bool}, law07_awake  = some r → Ctr Tryd.prog 9 [] [] (fun R H => R = oneOf [isv (r)] ∧ H = []) := by
 intro  r h
 unfold law07_awake at h
 refine spec_intro Tryd.func9 rfl (by decide +kernel) (by rfl) fun w0 S0 hT => ?_
 refine wsr ?_
 refine oV (v_assign rfl) ?_
 refine rnf ?_
 refine wsr ?_
 refine cal_inv h fun y1 hy1 h => ?_
 refine oT (t_call (r05_Parse_w hy1) hT (.same rfl .nil) .nil (fun R H' hR => ?_))
 obtain ⟨rfl, rfl⟩ := hR
 refine oV (v_move rfl) ?_
 refine oV (v_extract rfl rfl) ?_
 refine oV (v_extract rfl rfl) ?_
 refine oV (v_extract rfl rfl) ?_
 refine oT (t_alloc _ ze26 fun b2 => ?_)
 refine oT (t_storeC (y' := (y1.1 : GMod)) ty26 rfl rfl (fun _ _ h => h) .here rfl ?_)
 refine rl_upd (upd_imm 1 .here rfl) ?_
 refine oV (v_assign rfl) ?_
 refine oV (v_assign rfl) ?_
 refine rnf ?_
 refine wsr ?_
 refine oV (v_loadI ty26 rfl) ?_
 refine cal_inv h fun y3 hy3 h => ?_
 refine oT (t_call (refs_Order_w hy3) hT (.same rfl .nil) .nil (fun R H' hR => ?_))
 obtain ⟨rfl, rfl⟩ := hR
 refine oV (v_move rfl) ?_
 refine oV (v_extract rfl rfl) ?_
 refine oV (v_extract rfl rfl) ?_
 refine oV (v_extract rfl rfl) ?_
 refine oV (v_assign rfl) ?_
 refine oV (v_assign rfl) ?_
 refine oV (v_assign rfl) ?_
 refine rnf ?_
 refine wsr ?_
 refine oV (v_move rfl) ?_
 refine oV (v_eql rfl rfl) ?_
 refine oV (v_move rfl) ?_
 refine rl_j (ι := Bool) (γ := Unit) (fun q4 g4 => [(24, isv (q4))]) (fun q4 g4 => []) .nil h 4 rfl (fun q4 g4 h => ?_) (fun J5 h hJ5 => ?_)
 ·
  refine oV (v_move rfl) ?_
  refine rl_j (ι := Bool) (γ := Unit) (fun q7 g7 => [(30, isv (q7))]) (fun q7 g7 => []) .nil h 5 rfl (fun q7 g7 h => ?_) (fun J8 h hJ8 => ?_)
  ·
   refine oV (v_move rfl) ?_
   refine rl_j (ι := Bool) (γ := Unit) (fun q11 g11 => [(35, isv (q11))]) (fun q11 g11 => []) .nil h 4 rfl (fun q11 g11 h => ?_) (fun J12 h hJ12 => ?_)
   ·
    refine oV (v_assign rfl) ?_
    refine rnf ?_
    refine w_ret ?_
    refine ret_post (.tmp rfl .nil) .nil ?_
    obtain rfl := Option.some.inj h
    exact ⟨rfl, rfl⟩
   ·
    refine rl_condM (j := 31) h rfl (fun g13 h => ?_) (fun g13 h => ?_)
    ·
     refine op_take rfl rfl (dj := 31) rfl g13 (OpV.t (v_loadI ty26 rfl) ?_)
     refine cal_inv h fun y14 hy14 h => ?_
     refine op_take rfl rfl (dj := 31) rfl g13 (t_call (refs_Find_w hy14) hT (.same rfl (.same rfl .nil)) .nil (fun R H' hR => ?_))
     obtain ⟨rfl, rfl⟩ := hR
     refine op_take rfl rfl (dj := 31) rfl g13 (OpV.t (v_eql rfl rfl) ?_)
     refine oV (v_pick_t rfl g13 rfl) ?_
     exact hJ12 _ () h _ (join_imp 4 rfl rfl (mod_cons (j := 35) rfl (fun _ _ h => h) mod_nil) .nil)
    ·
     refine op_pass rfl (dj := 31) rfl g13 ?_
     refine op_pass rfl (dj := 31) rfl g13 ?_
     refine op_pass rfl (dj := 31) rfl g13 ?_
     refine oV (v_pick_f rfl g13 rfl) ?_
     exact hJ12 _ () h _ (join_imp 4 rfl rfl (mod_cons (j := 35) rfl (fun _ _ h => h) mod_nil) .nil)
  ·
   refine rl_condM (j := 25) h rfl (fun g9 h => ?_) (fun g9 h => ?_)
   ·
    refine op_take rfl rfl (dj := 25) rfl g9 (OpV.t (v_move rfl) ?_)
    refine cal_inv h fun y10 hy10 h => ?_
    refine op_take rfl rfl (dj := 25) rfl g9 (OpV.t (v_ix (l := y3.1) rfl (fun _ _ h => h) rfl sl23 hy10) ?_)
    refine op_take rfl rfl (dj := 25) rfl g9 (OpV.t (v_loadI ty3 rfl) ?_)
    refine op_take rfl rfl (dj := 25) rfl g9 (OpV.t (v_eql rfl rfl) ?_)
    refine oV (v_pick_t rfl g9 rfl) ?_
    exact hJ8 _ () h _ (join_imp 5 rfl rfl (mod_cons (j := 30) rfl (fun _ _ h => h) mod_nil) .nil)
   ·
    refine op_pass rfl (dj := 25) rfl g9 ?_
    refine op_pass rfl (dj := 25) rfl g9 ?_
    refine op_pass rfl (dj := 25) rfl g9 ?_
    refine op_pass rfl (dj := 25) rfl g9 ?_
    refine oV (v_pick_f rfl g9 rfl) ?_
    exact hJ8 _ () h _ (join_imp 5 rfl rfl (mod_cons (j := 30) rfl (fun _ _ h => h) mod_nil) .nil)
 ·
  refine rl_condM (j := 20) h rfl (fun g6 h => ?_) (fun g6 h => ?_)
  ·
   refine op_take rfl rfl (dj := 20) rfl g6 (OpV.t (v_move rfl) ?_)
   refine op_take rfl rfl (dj := 20) rfl g6 (OpV.t (v_ln (l := y3.1) rfl (fun _ _ h => h) sl23) ?_)
   refine op_take rfl rfl (dj := 20) rfl g6 (OpV.t (v_eql rfl rfl) ?_)
   refine oV (v_pick_t rfl g6 rfl) ?_
   exact hJ5 _ () h _ (join_imp 4 rfl rfl (mod_cons (j := 24) rfl (fun _ _ h => h) mod_nil) .nil)
  ·
   refine op_pass rfl (dj := 20) rfl g6 ?_
   refine op_pass rfl (dj := 20) rfl g6 ?_
   refine op_pass rfl (dj := 20) rfl g6 ?_
   refine oV (v_pick_f rfl g6 rfl) ?_
   exact hJ5 _ () h _ (join_imp 4 rfl rfl (mod_cons (j := 24) rfl (fun _ _ h => h) mod_nil) .nil)


theorem r07_Find_w : ∀ {a_m : GMod} {a_name : Str} {r : Int}, r07_Find a_m a_name = some r → Ctr Tryd.prog 13 [isv (a_m), isv (a_name)] [] (fun R H => R = oneOf [isv (r)] ∧ H = []) := by
 intro a_m a_name r h
 unfold r07_Find at h
 refine spec_intro Tryd.func13 rfl (by decide +kernel) (by rfl) fun w0 S0 hT => ?_
 refine wsr ?_
 refine oT (t_boxIC (y := a_m) rfl (fun _ _ h => h) ?_)
 refine oV (v_assign rfl) ?_
 refine rnf ?_
 refine w_seq ?_
 refine wsr ?_
 refine oV (v_assign rfl) ?_
 refine rnf ?_
 refine w_block ?_
 refine w_lp (ι := Int) (γ := Unit) (fun q1 g1 => [(5, isv (q1))]) (fun q1 g1 => []) h () (mod_cons (j := 5) rfl (fun _ _ h => h) mod_nil) .nil (fun L2 q1 g1 Q7 h hL2 eL2 rL2 => ?_)
 refine w_seq ?_
 refine wsr ?_
 refine oV (v_move rfl) ?_
 refine oV (v_fi rfl GMod.f2 fd26_2 rfl (z := a_m.names)) ?_
 refine oV (v_loadI ty22 rfl) ?_
 refine oV (v_ln (l := a_m.names) rfl (fun _ _ h => h) sl22) ?_
 refine oV (v_lss rfl rfl) ?_
 refine rnf ?_
 refine w_condM h rfl (fun _ h => ?_) (fun _ h => ?_)
 ·
  refine wkf ?_
  refine w_seq ?_
  refine w_block ?_
  refine wsr ?_
  refine oV (v_fi rfl GMod.f2 fd26_2 rfl (z := a_m.names)) ?_
  refine oV (v_loadI ty22 rfl) ?_
  refine oV (v_move rfl) ?_
  refine cal_inv h fun y5 hy5 h => ?_
  refine oV (v_ix (l := a_m.names) rfl (fun _ _ h => h) rfl sl22 hy5) ?_
  refine oV (v_loadI ty9 rfl) ?_
  refine oV (v_move rfl) ?_
  refine oV (v_eqA eq9 rfl rfl) ?_
  refine rnf ?_
  refine w_condM h rfl (fun _ h => ?_) (fun _ h => ?_)
  ·
   refine wsr ?_
   refine oV (v_move rfl) ?_
   refine oV (v_assign rfl) ?_
   refine rnf ?_
   refine w_ret ?_
   refine ret_block ?_
   refine ret_nxt ?_
   refine rL2 _ ?_
   refine ret_block ?_
   refine ret_nxt ?_
   refine ret_post (.tmp rfl .nil) .nil ?_
   obtain rfl := Option.some.inj h
   exact ⟨rfl, rfl⟩
  ·
   refine w_skip ?_
   refine fin_block ?_
   refine fin_nxt ?_
   refine w_region ?_
   refine oV (v_move rfl) ?_
   refine ck_inv h fun q6 h => ?_
   refine oV (v_add rfl rfl q6) ?_
   refine oV (v_assign rfl) ?_
   refine rl_nil ?_
   exact hL2 _ () h _ (join_imp 16 rfl rfl (mod_cons (j := 5) rfl (fun _ _ h => h) mod_nil) .nil)
 ·
  refine w_exit ?_
  refine exi_nxt ?_
  refine eL2 _ _ ?_
  refine exi_block ?_
  refine fin_nxt ?_
  refine wsr ?_
  refine oV (v_assign rfl) ?_
  refine rnf ?_
  refine w_ret ?_
  refine ret_post (.tmp rfl .nil) .nil ?_
  obtain rfl := Option.some.inj h
  exact ⟨rfl, rfl⟩


theorem h_In_int_w : ∀ {a_l : (List Int)} {a_x : Int} {r : Bool}, h_In_int a_l a_x = some r → Ctr Tryd.prog 17 [isv (a_l), isv (a_x)] [] (fun R H => R = oneOf [isv (r)] ∧ H = []) := by
 intro a_l a_x r h
 unfold h_In_int at h
 refine spec_intro Tryd.func17 rfl (by decide +kernel) (by rfl) fun w0 S0 hT => ?_
 refine wsr ?_
 refine oV (v_assign rfl) ?_
 refine rnf ?_
 refine w_seq ?_
 refine wsr ?_
 refine oV (v_assign rfl) ?_
 refine rnf ?_
 refine w_block ?_
 refine w_lp (ι := Int) (γ := Unit) (fun q1 g1 => [(5, isv (q1))]) (fun q1 g1 => []) h () (mod_cons (j := 5) rfl (fun _ _ h => h) mod_nil) .nil (fun L2 q1 g1 Q7 h hL2 eL2 rL2 => ?_)
 refine w_seq ?_
 refine wsr ?_
 refine oV (v_move rfl) ?_
 refine oV (v_move rfl) ?_
 refine oV (v_ln (l := a_l) rfl (fun _ _ h => h) sl23) ?_
 refine oV (v_lss rfl rfl) ?_
 refine rnf ?_
 refine w_condM h rfl (fun _ h => ?_) (fun _ h => ?_)
 ·
  refine wkf ?_
  refine w_seq ?_
  refine w_block ?_
  refine wsr ?_
  refine oV (v_move rfl) ?_
  refine oV (v_move rfl) ?_
  refine cal_inv h fun y5 hy5 h => ?_
  refine oV (v_ix (l := a_l) rfl (fun _ _ h => h) rfl sl23 hy5) ?_
  refine oV (v_loadI ty3 rfl) ?_
  refine oV (v_move rfl) ?_
  refine oV (v_eql rfl rfl) ?_
  refine rnf ?_
  refine w_condM h rfl (fun _ h => ?_) (fun _ h => ?_)
  ·
   refine wsr ?_
   refine oV (v_assign rfl) ?_
   refine rnf ?_
   refine w_ret ?_
   refine ret_block ?_
   refine ret_nxt ?_
   refine rL2 _ ?_
   refine ret_block ?_
   refine ret_nxt ?_
   refine ret_post (.tmp rfl .nil) .nil ?_
   obtain rfl := Option.some.inj h
   exact ⟨rfl, rfl⟩
  ·
   refine w_skip ?_
   refine fin_block ?_
   refine fin_nxt ?_
   refine w_region ?_
   refine oV (v_move rfl) ?_
   refine ck_inv h fun q6 h => ?_
   refine oV (v_add rfl rfl q6) ?_
   refine oV (v_assign rfl) ?_
   refine rl_nil ?_
   exact hL2 _ () h _ (join_imp 14 rfl rfl (mod_cons (j := 5) rfl (fun _ _ h => h) mod_nil) .nil)
 ·
  refine w_exit ?_
  refine exi_nxt ?_
  refine eL2 _ _ ?_
  refine exi_block ?_
  refine fin_nxt ?_
  refine wsr ?_
  refine oV (v_assign rfl) ?_
  refine rnf ?_
  refine w_ret ?_
  refine ret_post (.tmp rfl .nil) .nil ?_
  obtain rfl := Option.some.inj h
  exact ⟨rfl, rfl⟩


def r07_uses_C (f' : GMod → Int → Int → (List Int) → Option ((List Int) × Bool)) : Prop :=
 ∀ {a_m : GMod} {a_node : Int} {a_depth : Int} {a_l : (List Int)} {t_a_l : Tok} {r : (List Int) × Bool}, f' a_m a_node a_depth a_l = some r → Ctr Tryd.prog 32 [isv (a_m), isv (a_node), isv (a_depth), appv t_a_l (a_l)] [tokE t_a_l] (fun R H => ∃ u1 : Tok, R = oneOf [appv u1 (r.1), isv (r.2)] ∧ H = [tokE u1])
theorem r07_uses_w0 {r07_uses' : GMod → Int → Int → (List Int) → Option ((List Int) × Bool)} (h_r07_uses : r07_uses_C r07_uses') : ∀ {a_m : GMod} {a_node : Int} {a_depth : Int} {a_l : (List Int)} {t_a_l : Tok} {r : (List Int) × Bool}, r07_uses_F r07_uses' a_m a_node a_depth a_l = some r → Ctr Tryd.prog 32 [isv (a_m), isv (a_node), isv (a_depth), appv t_a_l (a_l)] [tokE t_a_l] (fun R H => ∃ u1 : Tok, R = oneOf [appv u1 (r.1), isv (r.2)] ∧ H = [tokE u1]) := by
 intro a_m a_node a_depth a_l t_a_l r h
 unfold r07_uses_F at h
 refine spec_intro Tryd.func32 rfl (by decide +kernel) (by rfl) fun w0 S0 hT => ?_
 refine wsr ?_
 refine oT (t_boxIC (y := a_m) rfl (fun _ _ h => h) ?_)
 refine oV (v_assign rfl) ?_
 refine oV (v_assign rfl) ?_
 refine rnf ?_
 refine w_seq ?_
 refine wsr ?_
 refine oV (v_move rfl) ?_
 refine oV (v_lss rfl rfl) ?_
 refine oV (v_move rfl) ?_
 refine rl_j (ι := Bool) (γ := Unit) (fun q1 g1 => [(24, isv (q1))]) (fun q1 g1 => []) .nil h 6 rfl (fun q1 g1 h => ?_) (fun J2 h hJ2 => ?_)
 ·
  refine oV (v_move rfl) ?_
  refine rl_j (ι := Bool) (γ := Unit) (fun q4 g4 => [(28, isv (q4))]) (fun q4 g4 => []) .nil h 3 rfl (fun q4 g4 h => ?_) (fun J5 h hJ5 => ?_)
  ·
   refine rnf ?_
   refine w_condM h rfl (fun _ h => ?_) (fun _ h => ?_)
   ·
    refine wsr ?_
    refine oV (v_move rfl) ?_
    refine oV (v_assign rfl) ?_
    refine oV (v_assign rfl) ?_
    refine rnf ?_
    refine w_ret ?_
    refine ret_nxt ?_
    refine ret_post (.tmp rfl (.tmp rfl .nil)) (.cons .here .nil) ?_
    obtain rfl := Option.some.inj h
    exact ⟨t_a_l, rfl, rfl⟩
   ·
    refine wkf ?_
    refine wsr ?_
    refine oV (v_fi rfl GMod.f4 fd26_4 rfl (z := a_m.nodes)) ?_
    refine oV (v_loadI ty24 rfl) ?_
    refine oV (v_move rfl) ?_
    refine cal_inv h fun y7 hy7 h => ?_
    refine oV (v_ix (l := a_m.nodes) rfl (fun _ _ h => h) rfl sl24 hy7) ?_
    refine oV (v_loadI ty83 rfl) ?_
    refine oT (t_alloc _ ze83 fun b8 => ?_)
    refine oT (t_storeC (y' := (y7 : GNode)) ty83 rfl rfl (fun _ _ h => h) .here rfl ?_)
    refine rl_upd (upd_imm 10 .here rfl) ?_
    refine rnf ?_
    refine w_seq ?_
    refine wsr ?_
    refine oV (v_fi rfl GNode.f0 fd83_0 rfl (z := y7.kind)) ?_
    refine oV (v_loadI ty3 rfl) ?_
    refine oV (v_eql rfl rfl) ?_
    refine rnf ?_
    refine w_condM h rfl (fun _ h => ?_) (fun _ h => ?_)
    ·
     refine wsr ?_
     refine oV (v_loadI ty26 rfl) ?_
     refine oV (v_fi rfl GNode.f1 fd83_1 rfl (z := y7.name)) ?_
     refine oV (v_loadI ty9 rfl) ?_
     refine cal_inv h fun y9 hy9 h => ?_
     refine oT (t_call (r07_Find_w hy9) hT (.same rfl (.same rfl .nil)) .nil (fun R H' hR => ?_))
     obtain ⟨rfl, rfl⟩ := hR
     refine oV (v_assign rfl) ?_
     refine rnf ?_
     refine w_seq ?_
     refine wsr ?_
     refine oV (v_move rfl) ?_
     refine oV (v_lss rfl rfl) ?_
     refine rnf ?_
     refine w_condM h rfl (fun _ h => ?_) (fun _ h => ?_)
     ·
      refine wsr ?_
      refine oV (v_move rfl) ?_
      refine oV (v_assign rfl) ?_
      refine oV (v_assign rfl) ?_
      refine rnf ?_
      refine w_ret ?_
      refine ret_nxt ?_
      refine ret_nxt ?_
      refine ret_post (.tmp rfl (.tmp rfl .nil)) (.cons .here .nil) ?_
      obtain rfl := Option.some.inj h
      exact ⟨t_a_l, rfl, rfl⟩
     ·
      refine wkf ?_
      refine w_seq ?_
      refine wsr ?_
      refine oV (v_move rfl) ?_
      refine oV (v_move rfl) ?_
      refine cal_inv h fun y10 hy10 h => ?_
      refine oT (t_call (h_In_int_w hy10) hT (.cons rfl appv_isv (.same rfl .nil)) .nil (fun R H' hR => ?_))
      obtain ⟨rfl, rfl⟩ := hR
      refine oV (v_not rfl) ?_
      refine rnf ?_
      refine w_J (ι := (List Int)) (γ := Tok) (fun q11 g11 => [(3, appv g11 (q11))]) (fun q11 g11 => [tokE g11]) (.cons .here .nil) h (fun q11 g11 h => ?_) (fun J12 h hJ12 => ?_)
      ·
       refine wsr ?_
       refine oV (v_move rfl) ?_
       refine oV (v_assign rfl) ?_
       refine oV (v_assign rfl) ?_
       refine rnf ?_
       refine w_ret ?_
       refine ret_nxt ?_
       refine ret_post (.tmp rfl (.tmp rfl .nil)) (.cons .here .nil) ?_
       obtain rfl := Option.some.inj h
       exact ⟨g11, rfl, rfl⟩
      ·
       refine w_condM h rfl (fun _ h => ?_) (fun _ h => ?_)
       ·
        refine w_region ?_
        refine oV (v_move rfl) ?_
        refine oV (v_move rfl) ?_
        refine oT (t_buildSlice (l := ([y9] : (List Int))) el23 (.cons rfl (fun _ _ h => h) .nil) rfl rfl ?_)
        refine asr_inv h fun q15 h => ?_
        refine oT (t_appC (l := a_l) (m := ([y9] : (List Int))) ap23_23 rfl (fun _ _ h => h) rfl appv_isv .here q15 fun t14 => ?_)
        refine oV (v_assign rfl) ?_
        refine rl_nil ?_
        exact hJ12 _ (t14) h _ (join_imp 5 rfl rfl (mod_cons (j := 3) rfl (fun _ _ h => h) mod_nil) (.cons .here .nil))
       ·
        refine w_skip ?_
        exact hJ12 _ (t_a_l) h _ (join_imp 0 rfl rfl (mod_cons (j := 3) rfl (fun _ _ h => h) mod_nil) (.cons .here .nil))
    ·
     refine wkf ?_
     refine wsr ?_
     refine oV (v_assign rfl) ?_
     refine rnf ?_
     refine w_seq ?_
     refine wsr ?_
     refine oV (v_assign rfl) ?_
     refine rnf ?_
     refine w_block ?_
     refine w_lp (ι := (List Int) × Bool × Int) (γ := Tok) (fun q16 g16 => [(3, appv g16 (q16.1)), (12, isv (q16.2.1)), (13, isv (q16.2.2))]) (fun q16 g16 => [tokE g16]) h (t_a_l) (mod_cons (j := 3) rfl (fun _ _ h => h) (mod_cons (j := 12) rfl (fun _ _ h => h) (mod_cons (j := 13) rfl (fun _ _ h => h) mod_nil))) (.cons .here .nil) (fun L17 q16 g16 Q44 h hL17 eL17 rL17 => ?_)
     refine w_seq ?_
     refine wsr ?_
     refine oV (v_move rfl) ?_
     refine oV (v_fi rfl GNode.f5 fd83_5 rfl (z := y7.fields)) ?_
     refine oV (v_loadI ty81 rfl) ?_
     refine oV (v_ln (l := y7.fields) rfl (fun _ _ h => h) sl81) ?_
     refine oV (v_lss rfl rfl) ?_
     refine rnf ?_
     refine w_condM h rfl (fun _ h => ?_) (fun _ h => ?_)
     ·
      refine wkf ?_
      refine w_seq ?_
      refine w_block ?_
      refine wsr ?_
      refine oV (v_assign rfl) ?_
      refine rnf ?_
      refine w_seq ?_
      refine w_regionD (.v 0 (.v 1 (.v 2 (.v 3 (.v 4 (.v 5 (.v 6 (.v 7 (.v 8 (.v 9 (.t 10 (.v 11 (.v 12 (.v 13 (.v 14 (.v 15 .nil)))))))))))))))) moOrd (by kernel_rfl) ?_
      refine rd_v rfl (v_loadI ty26 rfl) ?_
      refine rd_v rfl (v_fi rfl GNode.f5 fd83_5 rfl (z := y7.fields)) ?_
      refine rd_v rfl (v_loadI ty81 rfl) ?_
      refine rd_v rfl (v_move rfl) ?_
      refine cal_inv h fun y28 hy28 h => ?_
      refine rd_v rfl (v_ix (l := y7.fields) rfl (fun _ _ h => h) rfl sl81 hy28) ?_
      refine rd_v rfl (v_fi rfl GFld.f1 fd97_1 rfl (z := y28.ty)) ?_
      refine rd_v rfl (v_loadI ty3 rfl) ?_
      refine rd_v rfl (v_move rfl) ?_
      refine ck_inv h fun q29 h => ?_
      refine rd_v rfl (v_add rfl rfl q29) ?_
      refine rd_v rfl (v_move rfl) ?_
      refine cal_inv h fun y30 hy30 h => ?_
      refine rd_t rfl rfl (t_call (h_r07_uses hy30) hT (.same rfl (.same rfl (.same rfl (.same rfl .nil)))) (.cons .here .nil) (fun R H' hR => ?_))
      obtain ⟨t31, rfl, rfl⟩ := hR
      refine rd_v rfl (v_move rfl) ?_
      refine rd_v rfl (v_extract rfl rfl) ?_
      refine rd_v rfl (v_extract rfl rfl) ?_
      refine rd_v rfl (v_assign rfl) ?_
      refine rd_v rfl (v_assign rfl) ?_
      refine rd_nil ?_
      refine fin_nxt ?_
      refine w_region ?_
      refine oV (v_move rfl) ?_
      refine oV (v_move rfl) ?_
      refine rl_j (ι := Bool) (γ := Unit) (fun q32 g32 => [(78, isv (q32))]) (fun q32 g32 => []) .nil h 2 rfl (fun q32 g32 h => ?_) (fun J33 h hJ33 => ?_)
      ·
       refine oV (v_assign rfl) ?_
       refine rl_nil ?_
       refine fin_block ?_
       refine fin_nxt ?_
       refine w_region ?_
       refine oV (v_move rfl) ?_
       refine ck_inv h fun q35 h => ?_
       refine oV (v_add rfl rfl q35) ?_
       refine oV (v_assign rfl) ?_
       refine rl_nil ?_
       exact hL17 _ (t31) h _ (join_imp 32 rfl rfl (mod_cons (j := 3) rfl (fun _ _ h => h) (mod_cons (j := 12) rfl (fun _ _ h => h) (mod_cons (j := 13) rfl (fun _ _ h => h) mod_nil))) (.cons .here .nil))
      ·
       refine rl_condM (j := 76) h rfl (fun g34 h => ?_) (fun g34 h => ?_)
       ·
        refine op_pass rfl (dj := 76) rfl g34 ?_
        refine oV (v_pick_t rfl g34 rfl) ?_
        exact hJ33 _ () h _ (join_imp 2 rfl rfl (mod_cons (j := 78) rfl (fun _ _ h => h) mod_nil) (.cons .here .nil))
       ·
        refine op_take rfl rfl (dj := 76) rfl g34 (OpV.t (v_move rfl) ?_)
        refine oV (v_pick_f rfl g34 rfl) ?_
        exact hJ33 _ () h _ (join_imp 2 rfl rfl (mod_cons (j := 78) rfl (fun _ _ h => h) mod_nil) (.cons .here .nil))
     ·
      refine w_exit ?_
      refine exi_nxt ?_
      refine eL17 _ _ ?_
      refine exi_block ?_
      refine fin_nxt ?_
      refine w_seq ?_
      refine wsr ?_
      refine oV (v_fi rfl GNode.f0 fd83_0 rfl (z := y7.kind)) ?_
      refine oV (v_loadI ty3 rfl) ?_
      refine oV (v_eql rfl rfl) ?_
      refine rnf ?_
      refine w_J (ι := (List Int) × Bool) (γ := Tok) (fun q36 g36 => [(3, appv g36 (q36.1)), (12, isv (q36.2))]) (fun q36 g36 => [tokE g36]) (.cons .here .nil) h (fun q36 g36 h => ?_) (fun J37 h hJ37 => ?_)
      ·
       refine wsr ?_
       refine oV (v_move rfl) ?_
       refine oV (v_move rfl) ?_
       refine oV (v_assign rfl) ?_
       refine oV (v_assign rfl) ?_
       refine rnf ?_
       refine w_ret ?_
       refine ret_post (.tmp rfl (.tmp rfl .nil)) (.cons .here .nil) ?_
       obtain rfl := Option.some.inj h
       exact ⟨g36, rfl, rfl⟩
      ·
       refine w_condM h rfl (fun _ h => ?_) (fun _ h => ?_)
       ·
        refine wsr ?_
        refine oV (v_assign rfl) ?_
        refine rnf ?_
        refine wsr ?_
        refine oV (v_loadI ty26 rfl) ?_
        refine oV (v_fi rfl GNode.f8 fd83_8 rfl (z := y7.of)) ?_
        refine oV (v_loadI ty3 rfl) ?_
        refine oV (v_move rfl) ?_
        refine ck_inv h fun q38 h => ?_
        refine oV (v_add rfl rfl q38) ?_
        refine oV (v_move rfl) ?_
        refine cal_inv h fun y39 hy39 h => ?_
        refine oT (t_call (h_r07_uses hy39) hT (.same rfl (.same rfl (.same rfl (.same rfl .nil)))) (.cons .here .nil) (fun R H' hR => ?_))
        obtain ⟨t40, rfl, rfl⟩ := hR
        refine oV (v_move rfl) ?_
        refine oV (v_extract rfl rfl) ?_
        refine oV (v_extract rfl rfl) ?_
        refine oV (v_assign rfl) ?_
        refine oV (v_assign rfl) ?_
        refine rnf ?_
        refine w_region ?_
        refine oV (v_move rfl) ?_
        refine oV (v_move rfl) ?_
        refine rl_j (ι := Bool) (γ := Unit) (fun q41 g41 => [(95, isv (q41))]) (fun q41 g41 => []) .nil h 2 rfl (fun q41 g41 h => ?_) (fun J42 h hJ42 => ?_)
        ·
         refine oV (v_assign rfl) ?_
         refine rl_nil ?_
         exact hJ37 _ (t40) h _ (join_imp 17 rfl rfl (mod_cons (j := 3) rfl (fun _ _ h => h) (mod_cons (j := 12) rfl (fun _ _ h => h) mod_nil)) (.cons .here .nil))
        ·
         refine rl_condM (j := 93) h rfl (fun g43 h => ?_) (fun g43 h => ?_)
         ·
          refine op_pass rfl (dj := 93) rfl g43 ?_
          refine oV (v_pick_t rfl g43 rfl) ?_
          exact hJ42 _ () h _ (join_imp 2 rfl rfl (mod_cons (j := 95) rfl (fun _ _ h => h) mod_nil) (.cons .here .nil))
         ·
          refine op_take rfl rfl (dj := 93) rfl g43 (OpV.t (v_move rfl) ?_)
          refine oV (v_pick_f rfl g43 rfl) ?_
          exact hJ42 _ () h _ (join_imp 2 rfl rfl (mod_cons (j := 95) rfl (fun _ _ h => h) mod_nil) (.cons .here .nil))
       ·
        refine w_skip ?_
        exact hJ37 _ (g16) h _ (join_imp 0 rfl rfl (mod_cons (j := 3) rfl (fun _ _ h => h) (mod_cons (j := 12) rfl (fun _ _ h => h) mod_nil)) (.cons .here .nil))
  ·
   refine rl_condM (j := 25) h rfl (fun g6 h => ?_) (fun g6 h => ?_)
   ·
    refine op_pass rfl (dj := 25) rfl g6 ?_
    refine op_pass rfl (dj := 25) rfl g6 ?_
    refine oV (v_pick_t rfl g6 rfl) ?_
    exact hJ5 _ () h _ (join_imp 3 rfl rfl (mod_cons (j := 28) rfl (fun _ _ h => h) mod_nil) (.cons .here .nil))
   ·
    refine op_take rfl rfl (dj := 25) rfl g6 (OpV.t (v_move rfl) ?_)
    refine op_take rfl rfl (dj := 25) rfl g6 (OpV.t (v_gtr rfl rfl) ?_)
    refine oV (v_pick_f rfl g6 rfl) ?_
    exact hJ5 _ () h _ (join_imp 3 rfl rfl (mod_cons (j := 28) rfl (fun _ _ h => h) mod_nil) (.cons .here .nil))
 ·
  refine rl_condM (j := 18) h rfl (fun g3 h => ?_) (fun g3 h => ?_)
  ·
   refine op_pass rfl (dj := 18) rfl g3 ?_
   refine op_pass rfl (dj := 18) rfl g3 ?_
   refine op_pass rfl (dj := 18) rfl g3 ?_
   refine op_pass rfl (dj := 18) rfl g3 ?_
   refine op_pass rfl (dj := 18) rfl g3 ?_
   refine oV (v_pick_t rfl g3 rfl) ?_
   exact hJ2 _ () h _ (join_imp 6 rfl rfl (mod_cons (j := 24) rfl (fun _ _ h => h) mod_nil) (.cons .here .nil))
  ·
   refine op_take rfl rfl (dj := 18) rfl g3 (OpV.t (v_move rfl) ?_)
   refine op_take rfl rfl (dj := 18) rfl g3 (OpV.t (v_fi rfl GMod.f4 fd26_4 rfl (z := a_m.nodes)) ?_)
   refine op_take rfl rfl (dj := 18) rfl g3 (OpV.t (v_loadI ty24 rfl) ?_)
   refine op_take rfl rfl (dj := 18) rfl g3 (OpV.t (v_ln (l := a_m.nodes) rfl (fun _ _ h => h) sl24) ?_)
   refine op_take rfl rfl (dj := 18) rfl g3 (OpV.t (v_geq rfl rfl) ?_)
   refine oV (v_pick_f rfl g3 rfl) ?_
   exact hJ2 _ () h _ (join_imp 6 rfl rfl (mod_cons (j := 24) rfl (fun _ _ h => h) mod_nil) (.cons .here .nil))

theorem r07_uses_grp_w : ∀ n, r07_uses_C (r07_uses n)
 | 0 => fun h => (by cases h)
 | n + 1 => r07_uses_w0 (r07_uses_grp_w n)
theorem r07_uses_w (n : Nat) : r07_uses_C (r07_uses n) := (r07_uses_grp_w n)
end Go.Proofs.YtdcdndflfhaejaaDoor


namespace Go.Proofs.YtdcdndflfhaejaaDoor
open Go.Sy
set_option maxRecDepth 4000
theorem r07_reach_w : ∀ {a_graph : (List (List Int))} {a_from_ : Int} {a_to : Int} {r : Bool}, r07_reach a_graph a_from_ a_to = some r → Ctr Tryd.prog 33 [isv (a_graph), isv (a_from_), isv (a_to)] [] (fun R H => R = oneOf [isv (r)] ∧ H = []) := by
 intro a_graph a_from_ a_to r h
 unfold r07_reach at h
 refine spec_intro Tryd.func33 rfl (by decide +kernel) (by rfl) fun w0 S0 hT => ?_
 refine wsr ?_
 refine oV (v_assign rfl) ?_
 refine rnf ?_
 refine wsr ?_
 refine oT (t_buildSlice (l := ([] : (List Int))) el23 .nil rfl rfl ?_)
 refine oV (v_assign rfl) ?_
 refine rnf ?_
 refine wsr ?_
 refine oV (v_move rfl) ?_
 refine oV (v_move rfl) ?_
 refine cal_inv h fun y2 hy2 h => ?_
 refine oV (v_ix (l := a_graph) rfl (fun _ _ h => h) rfl sl57 hy2) ?_
 refine oV (v_loadI ty23 rfl) ?_
 refine asr_inv h fun q4 h => ?_
 refine oT (t_appN (m := y2) ap23_23 rfl rfl (fun _ _ h => h) q4 fun t3 => ?_)
 refine oV (v_assign rfl) ?_
 refine rnf ?_
 refine w_seq ?_
 refine w_block ?_
 refine w_upd (upd_tok) ?_
 refine w_lp (ι := (List Int) × (List Int)) (γ := Tok × Tok) (fun q5 g5 => [(7, appv g5.1 (q5.1)), (8, appv g5.2 (q5.2))]) (fun q5 g5 => [tokE g5.1, tokE g5.2]) h (none, t3) (mod_cons (j := 7) rfl (fun _ _ h => h) (mod_cons (j := 8) rfl (fun _ _ h => h) mod_nil)) (.cons .here (.cons .here .nil)) (fun L6 q5 g5 Q27 h hL6 eL6 rL6 => ?_)
 refine w_seq ?_
 refine wsr ?_
 refine oV (v_move rfl) ?_
 refine oV (v_ln (l := q5.2) rfl appv_isv sl23) ?_
 refine oV (v_gtr rfl rfl) ?_
 refine rnf ?_
 refine w_condM h rfl (fun _ h => ?_) (fun _ h => ?_)
 ·
  refine wkf ?_
  refine w_block ?_
  refine wsr ?_
  refine oV (v_move rfl) ?_
  refine cal_inv h fun y17 hy17 h => ?_
  refine oV (v_ix (l := q5.2) rfl appv_isv rfl sl23 hy17) ?_
  refine oV (v_loadI ty3 rfl) ?_
  refine oV (v_assign rfl) ?_
  refine rnf ?_
  refine wsr ?_
  refine oV (v_move rfl) ?_
  refine asd_inv h fun q18 h => ?_
  refine oT (t_slA rfl sl23 rfl q18.1 q18.2 (.there .here) fun t19 => ?_)
  refine oV (v_assign rfl) ?_
  refine rnf ?_
  refine w_seq ?_
  refine wsr ?_
  refine oV (v_move rfl) ?_
  refine oV (v_move rfl) ?_
  refine oV (v_eql rfl rfl) ?_
  refine rnf ?_
  refine w_condM h rfl (fun _ h => ?_) (fun _ h => ?_)
  ·
   refine wsr ?_
   refine oV (v_assign rfl) ?_
   refine rnf ?_
   refine w_ret ?_
   refine ret_nxt ?_
   refine ret_block ?_
   refine rL6 _ ?_
   refine ret_block ?_
   refine ret_nxt ?_
   refine ret_post (.tmp rfl .nil) .nil ?_
   obtain rfl := Option.some.inj h
   exact ⟨rfl, rfl⟩
  ·
   refine wkf ?_
   refine wsr ?_
   refine oV (v_move rfl) ?_
   refine oV (v_move rfl) ?_
   refine cal_inv h fun y20 hy20 h => ?_
   refine oT (t_call (h_In_int_w hy20) hT (.cons rfl appv_isv (.same rfl .nil)) .nil (fun R H' hR => ?_))
   obtain ⟨rfl, rfl⟩ := hR
   refine oV (v_not rfl) ?_
   refine rnf ?_
   refine w_condM h rfl (fun _ h => ?_) (fun _ h => ?_)
   ·
    refine wsr ?_
    refine oV (v_move rfl) ?_
    refine oV (v_move rfl) ?_
    refine oT (t_buildSlice (l := ([y17] : (List Int))) el23 (.cons rfl (fun _ _ h => h) .nil) rfl rfl ?_)
    refine asr_inv h fun q23 h => ?_
    refine oT (t_appC (l := q5.1) (m := ([y17] : (List Int))) ap23_23 rfl (fun _ _ h => h) rfl appv_isv (.there .here) q23 fun t22 => ?_)
    refine oV (v_assign rfl) ?_
    refine rnf ?_
    refine w_region ?_
    refine oV (v_move rfl) ?_
    refine oV (v_move rfl) ?_
    refine oV (v_move rfl) ?_
    refine cal_inv h fun y24 hy24 h => ?_
    refine oV (v_ix (l := a_graph) rfl (fun _ _ h => h) rfl sl57 hy24) ?_
    refine oV (v_loadI ty23 rfl) ?_
    refine asr_inv h fun q26 h => ?_
    refine oT (t_appC (l := (q5.2.drop ((1 : Int)).toNat)) (m := y24) ap23_23 rfl (fun _ _ h => h) rfl (fun _ _ h => h) (.there .here) q26 fun t25 => ?_)
    refine oV (v_assign rfl) ?_
    refine rl_nil ?_
    refine fin_block ?_
    exact hL6 _ (t22, t25) h _ (join_imp 31 rfl rfl (mod_cons (j := 7) rfl (fun _ _ h => h) (mod_cons (j := 8) rfl (fun _ _ h => h) mod_nil)) (.cons (.there .here) (.cons .here .nil)))
   ·
    refine w_skip ?_
    refine fin_block ?_
    exact hL6 _ (g5.1, t19) h _ (join_imp 19 rfl rfl (mod_cons (j := 7) rfl (fun _ _ h => h) (mod_cons (j := 8) rfl (fun _ _ h => h) mod_nil)) (.cons (.there .here) (.cons .here .nil)))
 ·
  refine w_exit ?_
  refine exi_nxt ?_
  refine eL6 _ _ ?_
  refine exi_block ?_
  refine fin_nxt ?_
  refine wsr ?_
  refine oV (v_assign rfl) ?_
  refine rnf ?_
  refine w_ret ?_
  refine ret_post (.tmp rfl .nil) .nil ?_
  obtain rfl := Option.some.inj h
  exact ⟨rfl, rfl⟩


theorem r07_Order_w : ∀ {a_m : GMod} {r : (List Int) × Int × Int}, r07_Order a_m = some r → Ctr Tryd.prog 11 [isv (a_m)] [] (fun R H => R = oneOf [isv (r.1), isv (r.2.1), isv (r.2.2)] ∧ H = []) := by
 intro a_m r h
 unfold r07_Order at h
 refine spec_intro Tryd.func11 rfl (by decide +kernel) (by rfl) fun w0 S0 hT => ?_
 refine wsr ?_
 refine oT (t_boxIC (y := a_m) rfl (fun _ _ h => h) ?_)
 refine oV (v_assign rfl) ?_
 refine oV (v_assign rfl) ?_
 refine oV (v_assign rfl) ?_
 refine rnf ?_
 refine wsr ?_
 refine oV (v_assign rfl) ?_
 refine rnf ?_
 refine wsr ?_
 refine oV (v_assign rfl) ?_
 refine rnf ?_
 refine w_seq ?_
 refine wsr ?_
 refine oV (v_assign rfl) ?_
 refine rnf ?_
 refine w_block ?_
 refine w_lp (ι := Int) (γ := Unit) (fun q1 g1 => [(7, isv (q1))]) (fun q1 g1 => []) h () (mod_cons (j := 7) rfl (fun _ _ h => h) mod_nil) .nil (fun L2 q1 g1 Q1603 h hL2 eL2 rL2 => ?_)
 refine w_seq ?_
 refine wsr ?_
 refine oV (v_move rfl) ?_
 refine oV (v_fi rfl GMod.f2 fd26_2 rfl (z := a_m.names)) ?_
 refine oV (v_loadI ty22 rfl) ?_
 refine oV (v_ln (l := a_m.names) rfl (fun _ _ h => h) sl22) ?_
 refine oV (v_lss rfl rfl) ?_
 refine rnf ?_
 refine w_condM h rfl (fun _ h => ?_) (fun _ h => ?_)
 ·
  refine wkf ?_
  refine w_seq ?_
  refine w_block ?_
  refine w_seq ?_
  refine w_regionD (.v 0 (.v 1 (.v 2 (.v 3 (.v 4 (.v 5 (.v 6 (.v 7 (.v 8 (.t 9 .nil)))))))))) moOrd (by kernel_rfl) ?_
  refine rd_v rfl (v_fi rfl GMod.f2 fd26_2 rfl (z := a_m.names)) ?_
  refine rd_v rfl (v_loadI ty22 rfl) ?_
  refine rd_v rfl (v_move rfl) ?_
  refine asd_inv h fun q803 h => ?_
  refine rd_v rfl (v_sl (l := a_m.names) rfl (fun _ _ h => h) sl22 (.inl ⟨rfl, rfl⟩) (.inr ⟨_, rfl, rfl⟩) q803.1 q803.2.1 q803.2.2) ?_
  refine rd_v rfl (v_fi rfl GMod.f2 fd26_2 rfl (z := a_m.names)) ?_
  refine rd_v rfl (v_loadI ty22 rfl) ?_
  refine rd_v rfl (v_move rfl) ?_
  refine cal_inv h fun y804 hy804 h => ?_
  refine rd_v rfl (v_ix (l := a_m.names) rfl (fun _ _ h => h) rfl sl22 hy804) ?_
  refine rd_v rfl (v_loadI ty9 rfl) ?_
  refine cal_inv h fun y805 hy805 h => ?_
  refine rd_t rfl rfl (t_call (h_In_string_w hy805) hT (.same rfl (.same rfl .nil)) .nil (fun R H' hR => ?_))
  obtain ⟨rfl, rfl⟩ := hR
  refine rd_nil ?_
  refine fin_nxt ?_
  refine w_condM h rfl (fun _ h => ?_) (fun _ h => ?_)
  ·
   refine wsr ?_
   refine oV (v_move rfl) ?_
   refine oV (v_assign rfl) ?_
   refine oV (v_assign rfl) ?_
   refine oV (v_assign rfl) ?_
   refine rnf ?_
   refine w_ret ?_
   refine ret_block ?_
   refine ret_nxt ?_
   refine rL2 _ ?_
   refine ret_block ?_
   refine ret_nxt ?_
   refine ret_post (.as rfl (nilv_isv (α := Int)) (.tmp rfl (.tmp rfl .nil))) .nil ?_
   obtain rfl := Option.some.inj h
   exact ⟨rfl, rfl⟩
  ·
   refine w_skip ?_
   refine fin_block ?_
   refine fin_nxt ?_
   refine w_region ?_
   refine oV (v_move rfl) ?_
   refine ck_inv h fun q806 h => ?_
   refine oV (v_add rfl rfl q806) ?_
   refine oV (v_assign rfl) ?_
   refine rl_nil ?_
   exact hL2 _ () h _ (join_imp 19 rfl rfl (mod_cons (j := 7) rfl (fun _ _ h => h) mod_nil) .nil)
 ·
  refine w_exit ?_
  refine exi_nxt ?_
  refine eL2 _ _ ?_
  refine exi_block ?_
  refine fin_nxt ?_
  refine w_seq ?_
  refine wsr ?_
  refine oV (v_assign rfl) ?_
  refine rnf ?_
  refine w_block ?_
  refine w_upd (upd_tok) ?_
  refine w_lp (ι := (List (List Int)) × Int × Int) (γ := Tok) (fun q807 g807 => [(5, appv g807 (q807.1)), (6, isv (q807.2.1)), (8, isv (q807.2.2))]) (fun q807 g807 => [tokE g807]) h (none) (mod_cons (j := 5) rfl nilv_appv (mod_cons (j := 6) rfl (fun _ _ h => h) (mod_cons (j := 8) rfl (fun _ _ h => h) mod_nil))) (.cons .here .nil) (fun L808 q807 g807 Q1602 h hL808 eL808 rL808 => ?_)
  refine w_seq ?_
  refine wsr ?_
  refine oV (v_move rfl) ?_
  refine oV (v_fi rfl GMod.f2 fd26_2 rfl (z := a_m.names)) ?_
  refine oV (v_loadI ty22 rfl) ?_
  refine oV (v_ln (l := a_m.names) rfl (fun _ _ h => h) sl22) ?_
  refine oV (v_lss rfl rfl) ?_
  refine rnf ?_
  refine w_condM h rfl (fun _ h => ?_) (fun _ h => ?_)
  ·
   refine wkf ?_
   refine w_seq ?_
   refine w_J (ι := (List (List Int)) × Int) (γ := Tok) (fun q1337 g1337 => [(5, appv g1337 (q1337.1)), (6, isv (q1337.2))]) (fun q1337 g1337 => [tokE g1337]) (.cons .here .nil) h (fun q1337 g1337 h => ?_) (fun J1338 h hJ1338 => ?_)
   ·
    refine w_region ?_
    refine oV (v_move rfl) ?_
    refine ck_inv h fun q1349 h => ?_
    refine oV (v_add rfl rfl q1349) ?_
    refine oV (v_assign rfl) ?_
    refine rl_nil ?_
    exact hL808 _ (g1337) h _ (join_imp 13 rfl rfl (mod_cons (j := 5) rfl (fun _ _ h => h) (mod_cons (j := 6) rfl (fun _ _ h => h) (mod_cons (j := 8) rfl (fun _ _ h => h) mod_nil))) (.cons .here .nil))
   ·
    refine w_block ?_
    refine w_seq ?_
    refine w_regionD (.v 0 (.v 1 (.v 2 (.v 3 (.v 4 (.v 5 (.t 6 (.v 7 (.v 8 (.v 9 (.v 10 (.v 11 .nil)))))))))))) moOrd (by kernel_rfl) ?_
    refine rd_v rfl (v_loadI ty26 rfl) ?_
    refine rd_v rfl (v_fi rfl GMod.f3 fd26_3 rfl (z := a_m.types)) ?_
    refine rd_v rfl (v_loadI ty23 rfl) ?_
    refine rd_v rfl (v_move rfl) ?_
    refine cal_inv h fun y1339 hy1339 h => ?_
    refine rd_v rfl (v_ix (l := a_m.types) rfl (fun _ _ h => h) rfl sl23 hy1339) ?_
    refine rd_v rfl (v_loadI ty3 rfl) ?_
    refine rd_upd (upd_tok) ?_
    refine cal_inv h fun y1341 hy1341 h => ?_
    refine rd_t rfl rfl (t_call (r07_uses_w fuel hy1341) hT (.same rfl (.same rfl (.same rfl (.cons rfl nilv_appv .nil)))) (.cons .here .nil) (fun R H' hR => ?_))
    obtain ⟨t1342, rfl, rfl⟩ := hR
    refine rd_v rfl (v_move rfl) ?_
    refine rd_v rfl (v_extract rfl rfl) ?_
    refine rd_v rfl (v_extract rfl rfl) ?_
    refine rd_v rfl (v_assign rfl) ?_
    refine rd_v rfl (v_assign rfl) ?_
    refine rd_nil ?_
    refine fin_nxt ?_
    refine wsr ?_
    refine oV (v_move rfl) ?_
    refine oV (v_move rfl) ?_
    refine oT (t_buildSlice (l := ([y1341.1] : (List (List Int)))) el57 (.cons rfl appv_isv .nil) rfl rfl ?_)
    refine asr_inv h fun q1345 h => ?_
    refine oT (t_appC (l := q807.1) (m := ([y1341.1] : (List (List Int)))) ap57_57 rfl (fun _ _ h => h) rfl appv_isv (.there .here) q1345 fun t1344 => ?_)
    refine oV (v_assign rfl) ?_
    refine rnf ?_
    refine wsr ?_
    refine oV (v_move rfl) ?_
    refine oV (v_move rfl) ?_
    refine rl_j (ι := Bool) (γ := Unit) (fun q1346 g1346 => [(59, isv (q1346))]) (fun q1346 g1346 => []) .nil h 3 rfl (fun q1346 g1346 h => ?_) (fun J1347 h hJ1347 => ?_)
    ·
     refine rnf ?_
     refine w_condM h rfl (fun _ h => ?_) (fun _ h => ?_)
     ·
      refine w_region ?_
      refine oV (v_move rfl) ?_
      refine oV (v_assign rfl) ?_
      refine rl_nil ?_
      refine fin_block ?_
      exact hJ1338 _ (t1344) h _ (join_imp 22 rfl rfl (mod_cons (j := 5) rfl (fun _ _ h => h) (mod_cons (j := 6) rfl (fun _ _ h => h) mod_nil)) (.cons .here .nil))
     ·
      refine w_skip ?_
      refine fin_block ?_
      exact hJ1338 _ (t1344) h _ (join_imp 20 rfl rfl (mod_cons (j := 5) rfl (fun _ _ h => h) (mod_cons (j := 6) rfl (fun _ _ h => h) mod_nil)) (.cons .here .nil))
    ·
     refine rl_condM (j := 56) h rfl (fun g1348 h => ?_) (fun g1348 h => ?_)
     ·
      refine op_take rfl rfl (dj := 56) rfl g1348 (OpV.t (v_move rfl) ?_)
      refine op_take rfl rfl (dj := 56) rfl g1348 (OpV.t (v_lss rfl rfl) ?_)
      refine oV (v_pick_t rfl g1348 rfl) ?_
      exact hJ1347 _ () h _ (join_imp 3 rfl rfl (mod_cons (j := 59) rfl (fun _ _ h => h) mod_nil) (.cons .here (.cons .here .nil)))
     ·
      refine op_pass rfl (dj := 56) rfl g1348 ?_
      refine op_pass rfl (dj := 56) rfl g1348 ?_
      refine oV (v_pick_f rfl g1348 rfl) ?_
      exact hJ1347 _ () h _ (join_imp 3 rfl rfl (mod_cons (j := 59) rfl (fun _ _ h => h) mod_nil) (.cons .here (.cons .here .nil)))
  ·
   refine w_exit ?_
   refine exi_nxt ?_
   refine eL808 _ _ ?_
   refine exi_block ?_
   refine fin_nxt ?_
   refine w_seq ?_
   refine wsr ?_
   refine oV (v_move rfl) ?_
   refine oV (v_geq rfl rfl) ?_
   refine rnf ?_
   refine w_condM h rfl (fun _ h => ?_) (fun _ h => ?_)
   ·
    refine wsr ?_
    refine oV (v_move rfl) ?_
    refine oV (v_assign rfl) ?_
    refine oV (v_assign rfl) ?_
    refine oV (v_assign rfl) ?_
    refine rnf ?_
    refine w_ret ?_
    refine ret_nxt ?_
    refine ret_post (.as rfl (nilv_isv (α := Int)) (.tmp rfl (.tmp rfl .nil))) .nil ?_
    obtain rfl := Option.some.inj h
    exact ⟨rfl, rfl⟩
   ·
    refine wkf ?_
    refine w_seq ?_
    refine wsr ?_
    refine oV (v_assign rfl) ?_
    refine rnf ?_
    refine w_block ?_
    refine w_lp (ι := Int) (γ := Unit) (fun q1350 g1350 => [(11, isv (q1350))]) (fun q1350 g1350 => []) h () (mod_cons (j := 11) rfl (fun _ _ h => h) mod_nil) .nil (fun L1351 q1350 g1350 Q1600 h hL1351 eL1351 rL1351 => ?_)
    refine w_seq ?_
    refine wsr ?_
    refine oV (v_move rfl) ?_
    refine oV (v_fi rfl GMod.f2 fd26_2 rfl (z := a_m.names)) ?_
    refine oV (v_loadI ty22 rfl) ?_
    refine oV (v_ln (l := a_m.names) rfl (fun _ _ h => h) sl22) ?_
    refine oV (v_lss rfl rfl) ?_
    refine rnf ?_
    refine w_condM h rfl (fun _ h => ?_) (fun _ h => ?_)
    ·
     refine wkf ?_
     refine w_seq ?_
     refine w_block ?_
     refine wsr ?_
     refine oV (v_move rfl) ?_
     refine oV (v_move rfl) ?_
     refine oV (v_move rfl) ?_
     refine cal_inv h fun y1476 hy1476 h => ?_
     refine oT (t_call (r07_reach_w hy1476) hT (.cons rfl appv_isv (.same rfl (.same rfl .nil))) .nil (fun R H' hR => ?_))
     obtain ⟨rfl, rfl⟩ := hR
     refine rnf ?_
     refine w_condM h rfl (fun _ h => ?_) (fun _ h => ?_)
     ·
      refine wsr ?_
      refine oV (v_move rfl) ?_
      refine oV (v_assign rfl) ?_
      refine oV (v_assign rfl) ?_
      refine oV (v_assign rfl) ?_
      refine rnf ?_
      refine w_ret ?_
      refine ret_block ?_
      refine ret_nxt ?_
      refine rL1351 _ ?_
      refine ret_block ?_
      refine ret_nxt ?_
      refine ret_post (.as rfl (nilv_isv (α := Int)) (.tmp rfl (.tmp rfl .nil))) .nil ?_
      obtain rfl := Option.some.inj h
      exact ⟨rfl, rfl⟩
     ·
      refine w_skip ?_
      refine fin_block ?_
      refine fin_nxt ?_
      refine w_region ?_
      refine oV (v_move rfl) ?_
      refine ck_inv h fun q1477 h => ?_
      refine oV (v_add rfl rfl q1477) ?_
      refine oV (v_assign rfl) ?_
      refine rl_nil ?_
      exact hL1351 _ () h _ (join_imp 13 rfl rfl (mod_cons (j := 11) rfl (fun _ _ h => h) mod_nil) (.cons .here .nil))
    ·
     refine w_exit ?_
     refine exi_nxt ?_
     refine eL1351 _ _ ?_
     refine exi_block ?_
     refine fin_nxt ?_
     refine wsr ?_
     refine oV (v_assign rfl) ?_
     refine rnf ?_
     refine w_seq ?_
     refine w_block ?_
     refine w_upd (upd_tok) ?_
     refine w_lp (ι := (List Int)) (γ := Tok) (fun q1478 g1478 => [(12, appv g1478 (q1478))]) (fun q1478 g1478 => [tokE g1478]) h (none) (mod_cons (j := 12) rfl nilv_appv mod_nil) (.cons .here .nil) (fun L1479 q1478 g1478 Q1599 h hL1479 eL1479 rL1479 => ?_)
     refine w_seq ?_
     refine wsr ?_
     refine oV (v_move rfl) ?_
     refine oV (v_ln (l := q1478) rfl appv_isv sl23) ?_
     refine oV (v_fi rfl GMod.f2 fd26_2 rfl (z := a_m.names)) ?_
     refine oV (v_loadI ty22 rfl) ?_
     refine oV (v_ln (l := a_m.names) rfl (fun _ _ h => h) sl22) ?_
     refine oV (v_lss rfl rfl) ?_
     refine rnf ?_
     refine w_condM h rfl (fun _ h => ?_) (fun _ h => ?_)
     ·
      refine wkf ?_
      refine w_block ?_
      refine wsr ?_
      refine oV (v_assign rfl) ?_
      refine rnf ?_
      refine w_block ?_
      refine w_lp (ι := Int) (γ := Unit) (fun q1539 g1539 => [(13, isv (q1539))]) (fun q1539 g1539 => []) h () (mod_cons (j := 13) rfl (fun _ _ h => h) mod_nil) .nil (fun L1540 q1539 g1539 Q1597 h hL1540 eL1540 rL1540 => ?_)
      refine w_seq ?_
      refine wsr ?_
      refine oV (v_move rfl) ?_
      refine oV (v_fi rfl GMod.f2 fd26_2 rfl (z := a_m.names)) ?_
      refine oV (v_loadI ty22 rfl) ?_
      refine oV (v_ln (l := a_m.names) rfl (fun _ _ h => h) sl22) ?_
      refine oV (v_lss rfl rfl) ?_
      refine rnf ?_
      refine w_condM h rfl (fun _ h => ?_) (fun _ h => ?_)
      ·
       refine wkf ?_
       refine w_seq ?_
       refine w_block ?_
       refine wsr ?_
       refine oV (v_move rfl) ?_
       refine oV (v_move rfl) ?_
       refine cal_inv h fun y1569 hy1569 h => ?_
       refine oT (t_call (h_In_int_w hy1569) hT (.cons rfl appv_isv (.same rfl .nil)) .nil (fun R H' hR => ?_))
       obtain ⟨rfl, rfl⟩ := hR
       refine oV (v_not rfl) ?_
       refine oV (v_assign rfl) ?_
       refine rnf ?_
       refine w_seq ?_
       refine wsr ?_
       refine oV (v_assign rfl) ?_
       refine rnf ?_
       refine w_block ?_
       refine w_lp (ι := Bool × Int) (γ := Unit) (fun q1570 g1570 => [(14, isv (q1570.1)), (15, isv (q1570.2))]) (fun q1570 g1570 => []) h () (mod_cons (j := 14) rfl (fun _ _ h => h) (mod_cons (j := 15) rfl (fun _ _ h => h) mod_nil)) .nil (fun L1571 q1570 g1570 Q1596 h hL1571 eL1571 rL1571 => ?_)
       refine w_seq ?_
       refine wsr ?_
       refine oV (v_move rfl) ?_
       refine oV (v_move rfl) ?_
       refine oV (v_move rfl) ?_
       refine cal_inv h fun y1584 hy1584 h => ?_
       refine oV (v_ix (l := q807.1) rfl appv_isv rfl sl57 hy1584) ?_
       refine oV (v_loadI ty23 rfl) ?_
       refine oV (v_ln (l := y1584) rfl (fun _ _ h => h) sl23) ?_
       refine oV (v_lss rfl rfl) ?_
       refine rnf ?_
       refine w_condM h rfl (fun _ h => ?_) (fun _ h => ?_)
       ·
        refine wkf ?_
        refine w_seq ?_
        refine w_block ?_
        refine w_region ?_
        refine oV (v_move rfl) ?_
        refine oV (v_move rfl) ?_
        refine rl_j (ι := Bool) (γ := Unit) (fun q1585 g1585 => [(113, isv (q1585))]) (fun q1585 g1585 => []) .nil h 10 rfl (fun q1585 g1585 h => ?_) (fun J1586 h hJ1586 => ?_)
        ·
         refine oV (v_assign rfl) ?_
         refine rl_nil ?_
         refine fin_block ?_
         refine fin_nxt ?_
         refine w_region ?_
         refine oV (v_move rfl) ?_
         refine ck_inv h fun q1591 h => ?_
         refine oV (v_add rfl rfl q1591) ?_
         refine oV (v_assign rfl) ?_
         refine rl_nil ?_
         exact hL1571 _ () h _ (join_imp 16 rfl rfl (mod_cons (j := 14) rfl (fun _ _ h => h) (mod_cons (j := 15) rfl (fun _ _ h => h) mod_nil)) (.cons .here (.cons .here .nil)))
        ·
         refine rl_condM (j := 103) h rfl (fun g1587 h => ?_) (fun g1587 h => ?_)
         ·
          refine op_take rfl rfl (dj := 103) rfl g1587 (OpV.t (v_move rfl) ?_)
          refine op_take rfl rfl (dj := 103) rfl g1587 (OpV.t (v_move rfl) ?_)
          refine op_take rfl rfl (dj := 103) rfl g1587 (OpV.t (v_move rfl) ?_)
          refine cal_inv h fun y1588 hy1588 h => ?_
          refine op_take rfl rfl (dj := 103) rfl g1587 (OpV.t (v_ix (l := q807.1) rfl appv_isv rfl sl57 hy1588) ?_)
          refine op_take rfl rfl (dj := 103) rfl g1587 (OpV.t (v_loadI ty23 rfl) ?_)
          refine op_take rfl rfl (dj := 103) rfl g1587 (OpV.t (v_move rfl) ?_)
          refine cal_inv h fun y1589 hy1589 h => ?_
          refine op_take rfl rfl (dj := 103) rfl g1587 (OpV.t (v_ix (l := y1588) rfl (fun _ _ h => h) rfl sl23 hy1589) ?_)
          refine op_take rfl rfl (dj := 103) rfl g1587 (OpV.t (v_loadI ty3 rfl) ?_)
          refine cal_inv h fun y1590 hy1590 h => ?_
          refine op_take rfl rfl (dj := 103) rfl g1587 (t_call (h_In_int_w hy1590) hT (.cons rfl appv_isv (.same rfl .nil)) .nil (fun R H' hR => ?_))
          obtain ⟨rfl, rfl⟩ := hR
          refine oV (v_pick_t rfl g1587 rfl) ?_
          exact hJ1586 _ () h _ (join_imp 10 rfl rfl (mod_cons (j := 113) rfl (fun _ _ h => h) mod_nil) (.cons .here (.cons .here .nil)))
         ·
          refine op_pass rfl (dj := 103) rfl g1587 ?_
          refine op_pass rfl (dj := 103) rfl g1587 ?_
          refine op_pass rfl (dj := 103) rfl g1587 ?_
          refine op_pass rfl (dj := 103) rfl g1587 ?_
          refine op_pass rfl (dj := 103) rfl g1587 ?_
          refine op_pass rfl (dj := 103) rfl g1587 ?_
          refine op_pass rfl (dj := 103) rfl g1587 ?_
          refine op_pass rfl (dj := 103) rfl g1587 ?_
          refine op_pass rfl (dj := 103) rfl g1587 ?_
          refine oV (v_pick_f rfl g1587 rfl) ?_
          exact hJ1586 _ () h _ (join_imp 10 rfl rfl (mod_cons (j := 113) rfl (fun _ _ h => h) mod_nil) (.cons .here (.cons .here .nil)))
       ·
        refine w_exit ?_
        refine exi_nxt ?_
        refine eL1571 _ _ ?_
        refine exi_block ?_
        refine fin_nxt ?_
        refine wsr ?_
        refine oV (v_move rfl) ?_
        refine rnf ?_
        refine w_condM h rfl (fun _ h => ?_) (fun _ h => ?_)
        ·
         refine wsr ?_
         refine oV (v_move rfl) ?_
         refine oV (v_move rfl) ?_
         refine oT (t_buildSlice (l := ([q1539] : (List Int))) el23 (.cons rfl (fun _ _ h => h) .nil) rfl rfl ?_)
         refine asr_inv h fun q1594 h => ?_
         refine oT (t_appC (l := q1478) (m := ([q1539] : (List Int))) ap23_23 rfl (fun _ _ h => h) rfl appv_isv .here q1594 fun t1593 => ?_)
         refine oV (v_assign rfl) ?_
         refine rnf ?_
         refine w_exit ?_
         refine exi_pass rfl ?_
         refine exi_nxt ?_
         refine eL1540 _ _ ?_
         refine exi_block ?_
         refine fin_block ?_
         exact hL1479 _ (t1593) h _ (join_imp 35 rfl rfl (mod_cons (j := 12) rfl (fun _ _ h => h) mod_nil) (.cons .here (.cons .here .nil)))
        ·
         refine w_skip ?_
         refine fin_block ?_
         refine fin_nxt ?_
         refine w_region ?_
         refine oV (v_move rfl) ?_
         refine ck_inv h fun q1595 h => ?_
         refine oV (v_add rfl rfl q1595) ?_
         refine oV (v_assign rfl) ?_
         refine rl_nil ?_
         exact hL1540 _ () h _ (join_imp 25 rfl rfl (mod_cons (j := 13) rfl (fun _ _ h => h) mod_nil) (.cons .here (.cons .here .nil)))
      ·
       refine w_exit ?_
       refine exi_nxt ?_
       refine eL1540 _ _ ?_
       refine exi_block ?_
       refine fin_block ?_
       exact hL1479 _ (g1478) h _ (join_imp 14 rfl rfl (mod_cons (j := 12) rfl (fun _ _ h => h) mod_nil) (.cons .here (.cons .here .nil)))
     ·
      refine w_exit ?_
      refine exi_nxt ?_
      refine eL1479 _ _ ?_
      refine exi_block ?_
      refine fin_nxt ?_
      refine wsr ?_
      refine oV (v_move rfl) ?_
      refine oV (v_assign rfl) ?_
      refine oV (v_assign rfl) ?_
      refine oV (v_assign rfl) ?_
      refine rnf ?_
      refine w_ret ?_
      refine ret_post (.as rfl appv_isv (.tmp rfl (.tmp rfl .nil))) .nil ?_
      obtain rfl := Option.some.inj h
      exact ⟨rfl, rfl⟩


theorem r07_Uses_w : ∀ {a_m : GMod} {a_node : Int} {r : (List Int)}, r07_Uses a_m a_node = some r → Ctr Tryd.prog 16 [isv (a_m), isv (a_node)] [] (fun R H => R = oneOf [isv (r)] ∧ H = []) := by
 intro a_m a_node r h
 unfold r07_Uses at h
 refine spec_intro Tryd.func16 rfl (by decide +kernel) (by rfl) fun w0 S0 hT => ?_
 refine wsr ?_
 refine oT (t_boxIC (y := a_m) rfl (fun _ _ h => h) ?_)
 refine oV (v_assign rfl) ?_
 refine rnf ?_
 refine wsr ?_
 refine oV (v_loadI ty26 rfl) ?_
 refine oV (v_move rfl) ?_
 refine rl_upd (upd_tok) ?_
 refine cal_inv h fun y2 hy2 h => ?_
 refine oT (t_call (r07_uses_w fuel hy2) hT (.same rfl (.same rfl (.same rfl (.cons rfl nilv_appv .nil)))) (.cons .here .nil) (fun R H' hR => ?_))
 obtain ⟨t3, rfl, rfl⟩ := hR
 refine oV (v_move rfl) ?_
 refine oV (v_extract rfl rfl) ?_
 refine oV (v_extract rfl rfl) ?_
 refine oV (v_assign rfl) ?_
 refine oV (v_assign rfl) ?_
 refine rnf ?_
 refine wsr ?_
 refine oV (v_move rfl) ?_
 refine oV (v_assign rfl) ?_
 refine rnf ?_
 refine w_ret ?_
 refine ret_post (.as rfl appv_isv .nil) .nil ?_
 obtain rfl := Option.some.inj h
 exact ⟨rfl, rfl⟩


theorem h_Plain_int_c1_w : ∀ {a_x : Int} {a_y : Int} {r : Bool}, h_Plain_int_c1 a_x a_y = some r → Ctr Tryd.prog 36 [isv (a_x), isv (a_y)] [] (fun R H => R = oneOf [isv (r)] ∧ H = []) := by
 intro a_x a_y r h
 unfold h_Plain_int_c1 at h
 refine spec_intro Tryd.func36 rfl (by decide +kernel) (by rfl) fun w0 S0 hT => ?_
 refine wsr ?_
 refine oV (v_assign rfl) ?_
 refine rnf ?_
 refine wsr ?_
 refine oV (v_move rfl) ?_
 refine oV (v_move rfl) ?_
 refine oV (v_eql rfl rfl) ?_
 refine oV (v_assign rfl) ?_
 refine rnf ?_
 refine w_ret ?_
 refine ret_post (.tmp rfl .nil) .nil ?_
 obtain rfl := Option.some.inj h
 exact ⟨rfl, rfl⟩


theorem h_Same_int_w : ∀ {a_a : (List Int)} {a_b : (List Int)} {r : Bool}, h_Same_int a_a a_b = some r → Ctr Tryd.prog 35 [isv (a_a), isv (a_b), clov 36 []] [] (fun R H => R = oneOf [isv (r)] ∧ H = []) := by
 intro a_a a_b r h
 unfold h_Same_int at h
 refine spec_intro Tryd.func35 rfl (by decide +kernel) (by rfl) fun w0 S0 hT => ?_
 refine wsr ?_
 refine oV (v_assign rfl) ?_
 refine rnf ?_
 refine w_seq ?_
 refine wsr ?_
 refine oV (v_move rfl) ?_
 refine oV (v_ln (l := a_a) rfl (fun _ _ h => h) sl23) ?_
 refine oV (v_move rfl) ?_
 refine oV (v_ln (l := a_b) rfl (fun _ _ h => h) sl23) ?_
 refine oV (v_neq rfl rfl) ?_
 refine rnf ?_
 refine w_condM h rfl (fun _ h => ?_) (fun _ h => ?_)
 ·
  refine wsr ?_
  refine oV (v_assign rfl) ?_
  refine rnf ?_
  refine w_ret ?_
  refine ret_nxt ?_
  refine ret_post (.tmp rfl .nil) .nil ?_
  obtain rfl := Option.some.inj h
  exact ⟨rfl, rfl⟩
 ·
  refine wkf ?_
  refine w_seq ?_
  refine wsr ?_
  refine oV (v_assign rfl) ?_
  refine rnf ?_
  refine w_block ?_
  refine w_lp (ι := Int) (γ := Unit) (fun q1 g1 => [(7, isv (q1))]) (fun q1 g1 => []) h () (mod_cons (j := 7) rfl (fun _ _ h => h) mod_nil) .nil (fun L2 q1 g1 Q11 h hL2 eL2 rL2 => ?_)
  refine w_seq ?_
  refine wsr ?_
  refine oV (v_move rfl) ?_
  refine oV (v_move rfl) ?_
  refine oV (v_ln (l := a_a) rfl (fun _ _ h => h) sl23) ?_
  refine oV (v_lss rfl rfl) ?_
  refine rnf ?_
  refine w_condM h rfl (fun _ h => ?_) (fun _ h => ?_)
  ·
   refine wkf ?_
   refine w_seq ?_
   refine w_block ?_
   refine w_seq ?_
   refine w_regionD (.v 0 (.v 1 (.v 2 (.v 3 (.v 4 (.v 5 (.v 6 (.v 7 (.v 8 (.t 9 (.v 10 .nil))))))))))) moOrd (by kernel_rfl) ?_
   refine rd_v rfl (v_move rfl) ?_
   refine rd_v rfl (v_move rfl) ?_
   refine rd_v rfl (v_move rfl) ?_
   refine cal_inv h fun y7 hy7 h => ?_
   refine rd_v rfl (v_ix (l := a_a) rfl (fun _ _ h => h) rfl sl23 hy7) ?_
   refine rd_v rfl (v_loadI ty3 rfl) ?_
   refine rd_v rfl (v_move rfl) ?_
   refine rd_v rfl (v_move rfl) ?_
   refine cal_inv h fun y8 hy8 h => ?_
   refine rd_v rfl (v_ix (l := a_b) rfl (fun _ _ h => h) rfl sl23 hy8) ?_
   refine rd_v rfl (v_loadI ty3 rfl) ?_
   refine cal_inv h fun y9 hy9 h => ?_
   refine rd_t rfl rfl (t_callC rfl (.same rfl (.same rfl .nil)) (h_Plain_int_c1_w hy9) hT .nil (fun R H' hR => ?_))
   obtain ⟨rfl, rfl⟩ := hR
   refine rd_v rfl (v_not rfl) ?_
   refine rd_nil ?_
   refine fin_nxt ?_
   refine w_condM h rfl (fun _ h => ?_) (fun _ h => ?_)
   ·
    refine wsr ?_
    refine oV (v_assign rfl) ?_
    refine rnf ?_
    refine w_ret ?_
    refine ret_block ?_
    refine ret_nxt ?_
    refine rL2 _ ?_
    refine ret_block ?_
    refine ret_nxt ?_
    refine ret_post (.tmp rfl .nil) .nil ?_
    obtain rfl := Option.some.inj h
    exact ⟨rfl, rfl⟩
   ·
    refine w_skip ?_
    refine fin_block ?_
    refine fin_nxt ?_
    refine w_region ?_
    refine oV (v_move rfl) ?_
    refine ck_inv h fun q10 h => ?_
    refine oV (v_add rfl rfl q10) ?_
    refine oV (v_assign rfl) ?_
    refine rl_nil ?_
    exact hL2 _ () h _ (join_imp 19 rfl rfl (mod_cons (j := 7) rfl (fun _ _ h => h) mod_nil) .nil)
  ·
   refine w_exit ?_
   refine exi_nxt ?_
   refine eL2 _ _ ?_
   refine exi_block ?_
   refine fin_nxt ?_
   refine wsr ?_
   refine oV (v_assign rfl) ?_
   refine rnf ?_
   refine w_ret ?_
   refine ret_post (.tmp rfl .nil) .nil ?_
   obtain rfl := Option.some.inj h
   exact ⟨rfl, rfl⟩


theorem h_Plain_int_w : ∀ {a_a : (List Int)} {a_b : (List Int)} {r : Bool}, h_Plain_int a_a a_b = some r → Ctr Tryd.prog 14 [isv (a_a), isv (a_b)] [] (fun R H => R = oneOf [isv (r)] ∧ H = []) := by
 intro a_a a_b r h
 unfold h_Plain_int at h
 refine spec_intro Tryd.func14 rfl (by decide +kernel) (by rfl) fun w0 S0 hT => ?_
 refine wsr ?_
 refine oV (v_assign rfl) ?_
 refine rnf ?_
 refine wsr ?_
 refine oV (v_move rfl) ?_
 refine oV (v_move rfl) ?_
 refine cal_inv h fun y1 hy1 h => ?_
 refine oT (t_call (h_Same_int_w hy1) hT (.same rfl (.same rfl (.same rfl .nil))) .nil (fun R H' hR => ?_))
 obtain ⟨rfl, rfl⟩ := hR
 refine oV (v_assign rfl) ?_
 refine rnf ?_
 refine w_ret ?_
 refine ret_post (.tmp rfl .nil) .nil ?_
 obtain rfl := Option.some.inj h
 exact ⟨rfl, rfl⟩


theorem law07_RefsTell_w : ∀ {a_text : Str} {a_name : Str} {a_node : Int} {r : Bool}, law07_RefsTell a_text a_name a_node = some r → Ctr Tryd.prog 3 [isv (a_text), isv (a_name), isv (a_node)] [] (fun R H => R = oneOf [isv (r)] ∧ H = []) := by
 intro a_text a_name a_node r h
 unfold law07_RefsTell at h
 refine spec_intro Tryd.func3 rfl (by decide +kernel) (by rfl) fun w0 S0 hT => ?_
 refine wsr ?_
 refine oV (v_assign rfl) ?_
 refine rnf ?_
 refine wsr ?_
 refine oV (v_move rfl) ?_
 refine cal_inv h fun y1 hy1 h => ?_
 refine oT (t_call (r05_Parse_w hy1) hT (.same rfl .nil) .nil (fun R H' hR => ?_))
 obtain ⟨rfl, rfl⟩ := hR
 refine oV (v_move rfl) ?_
 refine oV (v_extract rfl rfl) ?_
 refine oV (v_extract rfl rfl) ?_
 refine oV (v_extract rfl rfl) ?_
 refine oT (t_alloc _ ze26 fun b2 => ?_)
 refine oT (t_storeC (y' := (y1.1 : GMod)) ty26 rfl rfl (fun _ _ h => h) .here rfl ?_)
 refine rl_upd (upd_imm 7 .here rfl) ?_
 refine oV (v_assign rfl) ?_
 refine oV (v_assign rfl) ?_
 refine rnf ?_
 refine w_seq ?_
 refine wsr ?_
 refine oV (v_move rfl) ?_
 refine oV (v_lenS st9 rfl) ?_
 refine oV (v_gtr rfl rfl) ?_
 refine oV (v_move rfl) ?_
 refine rl_j (ι := Bool) (γ := Unit) (fun q3 g3 => [(28, isv (q3))]) (fun q3 g3 => []) .nil h 3 rfl (fun q3 g3 h => ?_) (fun J4 h hJ4 => ?_)
 ·
  refine rnf ?_
  refine w_condM h rfl (fun _ h => ?_) (fun _ h => ?_)
  ·
   refine wsr ?_
   refine cal_inv h fun y6 hy6 h => ?_
   refine oT (t_call (law07_awake_w hy6) hT .nil .nil (fun R H' hR => ?_))
   obtain ⟨rfl, rfl⟩ := hR
   refine oV (v_assign rfl) ?_
   refine rnf ?_
   refine w_ret ?_
   refine ret_nxt ?_
   refine ret_post (.tmp rfl .nil) .nil ?_
   obtain rfl := Option.some.inj h
   exact ⟨rfl, rfl⟩
  ·
   refine wkf ?_
   refine wsr ?_
   refine oV (v_loadI ty26 rfl) ?_
   refine cal_inv h fun y7 hy7 h => ?_
   refine oT (t_call (refs_Order_w hy7) hT (.same rfl .nil) .nil (fun R H' hR => ?_))
   obtain ⟨rfl, rfl⟩ := hR
   refine oV (v_move rfl) ?_
   refine oV (v_extract rfl rfl) ?_
   refine oV (v_extract rfl rfl) ?_
   refine oV (v_extract rfl rfl) ?_
   refine oV (v_assign rfl) ?_
   refine oV (v_assign rfl) ?_
   refine oV (v_assign rfl) ?_
   refine rnf ?_
   refine wsr ?_
   refine oV (v_loadI ty26 rfl) ?_
   refine cal_inv h fun y8 hy8 h => ?_
   refine oT (t_call (r07_Order_w hy8) hT (.same rfl .nil) .nil (fun R H' hR => ?_))
   obtain ⟨rfl, rfl⟩ := hR
   refine oV (v_move rfl) ?_
   refine oV (v_extract rfl rfl) ?_
   refine oV (v_extract rfl rfl) ?_
   refine oV (v_extract rfl rfl) ?_
   refine oV (v_assign rfl) ?_
   refine oV (v_assign rfl) ?_
   refine oV (v_assign rfl) ?_
   refine rnf ?_
   refine w_seq ?_
   refine w_regionD (.t 0 (.v 1 (.v 2 (.v 3 (.v 5 (.v 6 (.t 4 (.t 7 (.v 8 (.v 9 (.v 10 (.v 11 (.v 12 (.v 14 (.v 15 (.t 13 (.t 16 (.t 17 (.v 18 (.v 19 (.v 20 (.v 21 (.t 22 (.v 23 (.v 24 (.v 25 (.v 26 (.v 27 (.v 28 (.v 29 (.v 30 (.v 31 (.v 32 (.v 33 (.v 34 .nil))))))))))))))))))))))))))))))))))) moOrd (by kernel_rfl) ?_
   refine cal_inv h fun y9 hy9 h => ?_
   refine rd_t rfl rfl (t_call (law07_awake_w hy9) hT .nil .nil (fun R H' hR => ?_))
   obtain ⟨rfl, rfl⟩ := hR
   refine rd_v rfl (v_move rfl) ?_
   refine rd_j (ι := Bool) (γ := Unit) (fun q10 g10 => [(51, isv (q10))]) (fun q10 g10 => []) .nil h 8 rfl (fun q10 g10 h => ?_) (fun J11 h hJ11 => ?_)
   ·
    refine rd_v rfl (v_move rfl) ?_
    refine rd_j (ι := Bool) (γ := Unit) (fun q15 g15 => [(60, isv (q15))]) (fun q15 g15 => []) .nil h 8 rfl (fun q15 g15 h => ?_) (fun J16 h hJ16 => ?_)
    ·
     refine rd_v rfl (v_move rfl) ?_
     refine rd_j (ι := Bool) (γ := Unit) (fun q21 g21 => [(65, isv (q21))]) (fun q21 g21 => []) .nil h 4 rfl (fun q21 g21 h => ?_) (fun J22 h hJ22 => ?_)
     ·
      refine rd_v rfl (v_move rfl) ?_
      refine rd_j (ι := Bool) (γ := Unit) (fun q25 g25 => [(70, isv (q25))]) (fun q25 g25 => []) .nil h 4 rfl (fun q25 g25 h => ?_) (fun J26 h hJ26 => ?_)
      ·
       refine rd_v rfl (v_move rfl) ?_
       refine rd_j (ι := Bool) (γ := Unit) (fun q28 g28 => [(75, isv (q28))]) (fun q28 g28 => []) .nil h 4 rfl (fun q28 g28 h => ?_) (fun J29 h hJ29 => ?_)
       ·
        refine rd_v rfl (v_assign rfl) ?_
        refine rd_nil ?_
        refine fin_nxt ?_
        refine w_ret ?_
        refine ret_post (.tmp rfl .nil) .nil ?_
        obtain rfl := Option.some.inj h
        exact ⟨rfl, rfl⟩
       ·
        refine rd_condM (j := 71) h rfl (fun g30 h => ?_) (fun g30 h => ?_)
        ·
         refine rd_vt rfl rfl (dj := 71) rfl g30 (v_move rfl) ?_
         refine rd_vt rfl rfl (dj := 71) rfl g30 (v_move rfl) ?_
         refine rd_vt rfl rfl (dj := 71) rfl g30 (v_eql rfl rfl) ?_
         refine rd_v rfl (v_pick_t rfl g30 rfl) ?_
         exact hJ29 _ () h _ (join_imp 4 rfl rfl (mod_cons (j := 75) rfl (fun _ _ h => h) mod_nil) .nil)
        ·
         refine rd_passV rfl rfl (dj := 71) rfl g30 ?_
         refine rd_passV rfl rfl (dj := 71) rfl g30 ?_
         refine rd_passV rfl rfl (dj := 71) rfl g30 ?_
         refine rd_v rfl (v_pick_f rfl g30 rfl) ?_
         exact hJ29 _ () h _ (join_imp 4 rfl rfl (mod_cons (j := 75) rfl (fun _ _ h => h) mod_nil) .nil)
      ·
       refine rd_condM (j := 66) h rfl (fun g27 h => ?_) (fun g27 h => ?_)
       ·
        refine rd_vt rfl rfl (dj := 66) rfl g27 (v_move rfl) ?_
        refine rd_vt rfl rfl (dj := 66) rfl g27 (v_move rfl) ?_
        refine rd_vt rfl rfl (dj := 66) rfl g27 (v_eql rfl rfl) ?_
        refine rd_v rfl (v_pick_t rfl g27 rfl) ?_
        exact hJ26 _ () h _ (join_imp 4 rfl rfl (mod_cons (j := 70) rfl (fun _ _ h => h) mod_nil) .nil)
       ·
        refine rd_passV rfl rfl (dj := 66) rfl g27 ?_
        refine rd_passV rfl rfl (dj := 66) rfl g27 ?_
        refine rd_passV rfl rfl (dj := 66) rfl g27 ?_
        refine rd_v rfl (v_pick_f rfl g27 rfl) ?_
        exact hJ26 _ () h _ (join_imp 4 rfl rfl (mod_cons (j := 70) rfl (fun _ _ h => h) mod_nil) .nil)
     ·
      refine rd_condM (j := 61) h rfl (fun g23 h => ?_) (fun g23 h => ?_)
      ·
       refine rd_vt rfl rfl (dj := 61) rfl g23 (v_move rfl) ?_
       refine rd_vt rfl rfl (dj := 61) rfl g23 (v_move rfl) ?_
       refine cal_inv h fun y24 hy24 h => ?_
       refine rd_tt rfl rfl rfl (dj := 61) rfl g23 (t_call (h_Plain_int_w hy24) hT (.same rfl (.same rfl .nil)) .nil (fun R H' hR => ?_))
       obtain ⟨rfl, rfl⟩ := hR
       refine rd_v rfl (v_pick_t rfl g23 rfl) ?_
       exact hJ22 _ () h _ (join_imp 4 rfl rfl (mod_cons (j := 65) rfl (fun _ _ h => h) mod_nil) .nil)
      ·
       refine rd_passV rfl rfl (dj := 61) rfl g23 ?_
       refine rd_passV rfl rfl (dj := 61) rfl g23 ?_
       refine rd_passT rfl rfl (dj := 61) rfl g23 ?_
       refine rd_v rfl (v_pick_f rfl g23 rfl) ?_
       exact hJ22 _ () h _ (join_imp 4 rfl rfl (mod_cons (j := 65) rfl (fun _ _ h => h) mod_nil) .nil)
    ·
     refine rd_condM (j := 52) h rfl (fun g17 h => ?_) (fun g17 h => ?_)
     ·
      refine rd_vt rfl rfl (dj := 52) rfl g17 (v_loadI ty26 rfl) ?_
      refine rd_vt rfl rfl (dj := 52) rfl g17 (v_move rfl) ?_
      refine rd_vt rfl rfl (dj := 52) rfl g17 (v_loadI ty26 rfl) ?_
      refine rd_vt rfl rfl (dj := 52) rfl g17 (v_move rfl) ?_
      refine cal_inv h fun y18 hy18 h => ?_
      refine rd_tt rfl rfl rfl (dj := 52) rfl g17 (t_call (refs_Uses_w hy18) hT (.same rfl (.same rfl .nil)) .nil (fun R H' hR => ?_))
      obtain ⟨rfl, rfl⟩ := hR
      refine cal_inv h fun y19 hy19 h => ?_
      refine rd_tt rfl rfl rfl (dj := 52) rfl g17 (t_call (r07_Uses_w hy19) hT (.same rfl (.same rfl .nil)) .nil (fun R H' hR => ?_))
      obtain ⟨rfl, rfl⟩ := hR
      refine cal_inv h fun y20 hy20 h => ?_
      refine rd_tt rfl rfl rfl (dj := 52) rfl g17 (t_call (h_Plain_int_w hy20) hT (.same rfl (.same rfl .nil)) .nil (fun R H' hR => ?_))
      obtain ⟨rfl, rfl⟩ := hR
      refine rd_v rfl (v_pick_t rfl g17 rfl) ?_
      exact hJ16 _ () h _ (join_imp 8 rfl rfl (mod_cons (j := 60) rfl (fun _ _ h => h) mod_nil) .nil)
     ·
      refine rd_passV rfl rfl (dj := 52) rfl g17 ?_
      refine rd_passV rfl rfl (dj := 52) rfl g17 ?_
      refine rd_passV rfl rfl (dj := 52) rfl g17 ?_
      refine rd_passV rfl rfl (dj := 52) rfl g17 ?_
      refine rd_passT rfl rfl (dj := 52) rfl g17 ?_
      refine rd_passT rfl rfl (dj := 52) rfl g17 ?_
      refine rd_passT rfl rfl (dj := 52) rfl g17 ?_
      refine rd_v rfl (v_pick_f rfl g17 rfl) ?_
      exact hJ16 _ () h _ (join_imp 8 rfl rfl (mod_cons (j := 60) rfl (fun _ _ h => h) mod_nil) .nil)
   ·
    refine rd_condM (j := 43) h rfl (fun g12 h => ?_) (fun g12 h => ?_)
    ·
     refine rd_vt rfl rfl (dj := 43) rfl g12 (v_loadI ty26 rfl) ?_
     refine rd_vt rfl rfl (dj := 43) rfl g12 (v_move rfl) ?_
     refine rd_vt rfl rfl (dj := 43) rfl g12 (v_loadI ty26 rfl) ?_
     refine rd_vt rfl rfl (dj := 43) rfl g12 (v_move rfl) ?_
     refine cal_inv h fun y13 hy13 h => ?_
     refine rd_tt rfl rfl rfl (dj := 43) rfl g12 (t_call (refs_Find_w hy13) hT (.same rfl (.same rfl .nil)) .nil (fun R H' hR => ?_))
     obtain ⟨rfl, rfl⟩ := hR
     refine cal_inv h fun y14 hy14 h => ?_
     refine rd_tt rfl rfl rfl (dj := 43) rfl g12 (t_call (r07_Find_w hy14) hT (.same rfl (.same rfl .nil)) .nil (fun R H' hR => ?_))
     obtain ⟨rfl, rfl⟩ := hR
     refine rd_vt rfl rfl (dj := 43) rfl g12 (v_eql rfl rfl) ?_
     refine rd_v rfl (v_pick_t rfl g12 rfl) ?_
     exact hJ11 _ () h _ (join_imp 8 rfl rfl (mod_cons (j := 51) rfl (fun _ _ h => h) mod_nil) .nil)
    ·
     refine rd_passV rfl rfl (dj := 43) rfl g12 ?_
     refine rd_passV rfl rfl (dj := 43) rfl g12 ?_
     refine rd_passV rfl rfl (dj := 43) rfl g12 ?_
     refine rd_passV rfl rfl (dj := 43) rfl g12 ?_
     refine rd_passT rfl rfl (dj := 43) rfl g12 ?_
     refine rd_passT rfl rfl (dj := 43) rfl g12 ?_
     refine rd_passV rfl rfl (dj := 43) rfl g12 ?_
     refine rd_v rfl (v_pick_f rfl g12 rfl) ?_
     exact hJ11 _ () h _ (join_imp 8 rfl rfl (mod_cons (j := 51) rfl (fun _ _ h => h) mod_nil) .nil)
 ·
  refine rl_condM (j := 25) h rfl (fun g5 h => ?_) (fun g5 h => ?_)
  ·
   refine op_pass rfl (dj := 25) rfl g5 ?_
   refine op_pass rfl (dj := 25) rfl g5 ?_
   refine oV (v_pick_t rfl g5 rfl) ?_
   exact hJ4 _ () h _ (join_imp 3 rfl rfl (mod_cons (j := 28) rfl (fun _ _ h => h) mod_nil) .nil)
  ·
   refine op_take rfl rfl (dj := 25) rfl g5 (OpV.t (v_move rfl) ?_)
   refine op_take rfl rfl (dj := 25) rfl g5 (OpV.t (v_neq rfl rfl) ?_)
   refine oV (v_pick_f rfl g5 rfl) ?_
   exact hJ4 _ () h _ (join_imp 3 rfl rfl (mod_cons (j := 28) rfl (fun _ _ h => h) mod_nil) .nil)


theorem law07_RefsOrder_w : ∀ {a_text : Str} {r : Bool}, law07_RefsOrder a_text = some r → Ctr Tryd.prog 4 [isv (a_text)] [] (fun R H => R = oneOf [isv (r)] ∧ H = []) := by
 intro a_text r h
 unfold law07_RefsOrder at h
 refine spec_intro Tryd.func4 rfl (by decide +kernel) (by rfl) fun w0 S0 hT => ?_
 refine wsr ?_
 refine oV (v_assign rfl) ?_
 refine rnf ?_
 refine wsr ?_
 refine oV (v_move rfl) ?_
 refine cal_inv h fun y1 hy1 h => ?_
 refine oT (t_call (r05_Parse_w hy1) hT (.same rfl .nil) .nil (fun R H' hR => ?_))
 obtain ⟨rfl, rfl⟩ := hR
 refine oV (v_move rfl) ?_
 refine oV (v_extract rfl rfl) ?_
 refine oV (v_extract rfl rfl) ?_
 refine oV (v_extract rfl rfl) ?_
 refine oT (t_alloc _ ze26 fun b2 => ?_)
 refine oT (t_storeC (y' := (y1.1 : GMod)) ty26 rfl rfl (fun _ _ h => h) .here rfl ?_)
 refine rl_upd (upd_imm 3 .here rfl) ?_
 refine oV (v_assign rfl) ?_
 refine oV (v_assign rfl) ?_
 refine rnf ?_
 refine w_seq ?_
 refine wsr ?_
 refine oV (v_move rfl) ?_
 refine oV (v_lenS st9 rfl) ?_
 refine oV (v_gtr rfl rfl) ?_
 refine oV (v_move rfl) ?_
 refine rl_j (ι := Bool) (γ := Unit) (fun q3 g3 => [(24, isv (q3))]) (fun q3 g3 => []) .nil h 3 rfl (fun q3 g3 h => ?_) (fun J4 h hJ4 => ?_)
 ·
  refine rnf ?_
  refine w_condM h rfl (fun _ h => ?_) (fun _ h => ?_)
  ·
   refine wsr ?_
   refine cal_inv h fun y6 hy6 h => ?_
   refine oT (t_call (law07_awake_w hy6) hT .nil .nil (fun R H' hR => ?_))
   obtain ⟨rfl, rfl⟩ := hR
   refine oV (v_assign rfl) ?_
   refine rnf ?_
   refine w_ret ?_
   refine ret_nxt ?_
   refine ret_post (.tmp rfl .nil) .nil ?_
   obtain rfl := Option.some.inj h
   exact ⟨rfl, rfl⟩
  ·
   refine wkf ?_
   refine wsr ?_
   refine oV (v_loadI ty26 rfl) ?_
   refine cal_inv h fun y7 hy7 h => ?_
   refine oT (t_call (refs_Order_w hy7) hT (.same rfl .nil) .nil (fun R H' hR => ?_))
   obtain ⟨rfl, rfl⟩ := hR
   refine oV (v_move rfl) ?_
   refine oV (v_extract rfl rfl) ?_
   refine oV (v_extract rfl rfl) ?_
   refine oV (v_extract rfl rfl) ?_
   refine oV (v_assign rfl) ?_
   refine oV (v_assign rfl) ?_
   refine oV (v_assign rfl) ?_
   refine rnf ?_
   refine w_seq ?_
   refine wsr ?_
   refine cal_inv h fun y8 hy8 h => ?_
   refine oT (t_call (law07_awake_w hy8) hT .nil .nil (fun R H' hR => ?_))
   obtain ⟨rfl, rfl⟩ := hR
   refine oV (v_not rfl) ?_
   refine oV (v_move rfl) ?_
   refine rl_j (ι := Bool) (γ := Unit) (fun q9 g9 => [(37, isv (q9))]) (fun q9 g9 => []) .nil h 3 rfl (fun q9 g9 h => ?_) (fun J10 h hJ10 => ?_)
   ·
    refine rnf ?_
    refine w_condM h rfl (fun _ h => ?_) (fun _ h => ?_)
    ·
     refine wsr ?_
     refine cal_inv h fun y12 hy12 h => ?_
     refine oT (t_call (law07_awake_w hy12) hT .nil .nil (fun R H' hR => ?_))
     obtain ⟨rfl, rfl⟩ := hR
     refine oV (v_move rfl) ?_
     refine rl_j (ι := Bool) (γ := Unit) (fun q13 g13 => [(43, isv (q13))]) (fun q13 g13 => []) .nil h 4 rfl (fun q13 g13 h => ?_) (fun J14 h hJ14 => ?_)
     ·
      refine oV (v_assign rfl) ?_
      refine rnf ?_
      refine w_ret ?_
      refine ret_nxt ?_
      refine ret_post (.tmp rfl .nil) .nil ?_
      obtain rfl := Option.some.inj h
      exact ⟨rfl, rfl⟩
     ·
      refine rl_condM (j := 39) h rfl (fun g15 h => ?_) (fun g15 h => ?_)
      ·
       refine op_take rfl rfl (dj := 39) rfl g15 (OpV.t (v_move rfl) ?_)
       refine op_take rfl rfl (dj := 39) rfl g15 (OpV.t (v_ln (l := y7.1) rfl (fun _ _ h => h) sl23) ?_)
       refine op_take rfl rfl (dj := 39) rfl g15 (OpV.t (v_eql rfl rfl) ?_)
       refine oV (v_pick_t rfl g15 rfl) ?_
       exact hJ14 _ () h _ (join_imp 4 rfl rfl (mod_cons (j := 43) rfl (fun _ _ h => h) mod_nil) .nil)
      ·
       refine op_pass rfl (dj := 39) rfl g15 ?_
       refine op_pass rfl (dj := 39) rfl g15 ?_
       refine op_pass rfl (dj := 39) rfl g15 ?_
       refine oV (v_pick_f rfl g15 rfl) ?_
       exact hJ14 _ () h _ (join_imp 4 rfl rfl (mod_cons (j := 43) rfl (fun _ _ h => h) mod_nil) .nil)
    ·
     refine wkf ?_
     refine w_seq ?_
     refine wsr ?_
     refine oV (v_assign rfl) ?_
     refine rnf ?_
     refine w_block ?_
     refine w_lp (ι := Int) (γ := Unit) (fun q16 g16 => [(9, isv (q16))]) (fun q16 g16 => []) h () (mod_cons (j := 9) rfl (fun _ _ h => h) mod_nil) .nil (fun L17 q16 g16 Q72 h hL17 eL17 rL17 => ?_)
     refine w_seq ?_
     refine wsr ?_
     refine oV (v_move rfl) ?_
     refine oV (v_move rfl) ?_
     refine oV (v_ln (l := y7.1) rfl (fun _ _ h => h) sl23) ?_
     refine oV (v_lss rfl rfl) ?_
     refine rnf ?_
     refine w_condM h rfl (fun _ h => ?_) (fun _ h => ?_)
     ·
      refine wkf ?_
      refine w_seq ?_
      refine w_block ?_
      refine w_seq ?_
      refine w_seq ?_
      refine w_regionD (.v 0 (.v 1 (.v 2 (.v 3 (.v 4 (.v 5 (.v 6 (.v 7 (.v 8 (.v 9 (.v 10 (.v 11 (.v 12 (.v 13 (.v 14 (.v 15 (.v 16 (.v 17 (.v 18 (.v 19 (.v 20 (.v 21 (.v 22 (.t 23 (.v 24 .nil))))))))))))))))))))))))) moOrd (by kernel_rfl) ?_
      refine rd_v rfl (v_move rfl) ?_
      refine rd_v rfl (v_move rfl) ?_
      refine cal_inv h fun y45 hy45 h => ?_
      refine rd_v rfl (v_ix (l := y7.1) rfl (fun _ _ h => h) rfl sl23 hy45) ?_
      refine rd_v rfl (v_loadI ty3 rfl) ?_
      refine rd_v rfl (v_lss rfl rfl) ?_
      refine rd_v rfl (v_move rfl) ?_
      refine rd_j (ι := Bool) (γ := Unit) (fun q46 g46 => [(64, isv (q46))]) (fun q46 g46 => []) .nil h 9 rfl (fun q46 g46 h => ?_) (fun J47 h hJ47 => ?_)
      ·
       refine rd_v rfl (v_move rfl) ?_
       refine rd_j (ι := Bool) (γ := Unit) (fun q50 g50 => [(74, isv (q50))]) (fun q50 g50 => []) .nil h 9 rfl (fun q50 g50 h => ?_) (fun J51 h hJ51 => ?_)
       ·
        refine rd_nil ?_
        refine fin_nxt ?_
        refine w_condM h rfl (fun _ h => ?_) (fun _ h => ?_)
        ·
         refine wsr ?_
         refine oV (v_assign rfl) ?_
         refine rnf ?_
         refine w_ret ?_
         refine ret_nxt ?_
         refine ret_block ?_
         refine ret_nxt ?_
         refine rL17 _ ?_
         refine ret_block ?_
         refine ret_nxt ?_
         refine ret_post (.tmp rfl .nil) .nil ?_
         obtain rfl := Option.some.inj h
         exact ⟨rfl, rfl⟩
        ·
         refine wkf ?_
         refine w_seq ?_
         refine w_regionD (.v 0 (.v 1 (.v 2 (.v 3 (.v 4 (.v 5 (.v 6 (.v 7 (.v 8 (.t 9 (.v 10 .nil))))))))))) moOrd (by kernel_rfl) ?_
         refine rd_v rfl (v_loadI ty26 rfl) ?_
         refine rd_v rfl (v_fi rfl GMod.f3 fd26_3 rfl (z := y1.1.types)) ?_
         refine rd_v rfl (v_loadI ty23 rfl) ?_
         refine rd_v rfl (v_move rfl) ?_
         refine rd_v rfl (v_move rfl) ?_
         refine cal_inv h fun y56 hy56 h => ?_
         refine rd_v rfl (v_ix (l := y7.1) rfl (fun _ _ h => h) rfl sl23 hy56) ?_
         refine rd_v rfl (v_loadI ty3 rfl) ?_
         refine cal_inv h fun y57 hy57 h => ?_
         refine rd_v rfl (v_ix (l := y1.1.types) rfl (fun _ _ h => h) rfl sl23 hy57) ?_
         refine rd_v rfl (v_loadI ty3 rfl) ?_
         refine cal_inv h fun y58 hy58 h => ?_
         refine rd_t rfl rfl (t_call (refs_Uses_w hy58) hT (.same rfl (.same rfl .nil)) .nil (fun R H' hR => ?_))
         obtain ⟨rfl, rfl⟩ := hR
         refine rd_v rfl (v_assign rfl) ?_
         refine rd_nil ?_
         refine fin_nxt ?_
         refine wsr ?_
         refine oV (v_assign rfl) ?_
         refine rnf ?_
         refine w_block ?_
         refine w_lp (ι := Int) (γ := Unit) (fun q59 g59 => [(11, isv (q59))]) (fun q59 g59 => []) h () (mod_cons (j := 11) rfl (fun _ _ h => h) mod_nil) .nil (fun L60 q59 g59 Q71 h hL60 eL60 rL60 => ?_)
         refine w_seq ?_
         refine wsr ?_
         refine oV (v_move rfl) ?_
         refine oV (v_move rfl) ?_
         refine oV (v_ln (l := y58) rfl (fun _ _ h => h) sl23) ?_
         refine oV (v_lss rfl rfl) ?_
         refine rnf ?_
         refine w_condM h rfl (fun _ h => ?_) (fun _ h => ?_)
         ·
          refine wkf ?_
          refine w_seq ?_
          refine w_block ?_
          refine w_seq ?_
          refine w_regionD (.v 0 (.v 1 (.v 2 (.v 3 (.v 4 (.v 5 (.v 6 (.t 7 (.v 8 .nil))))))))) moOrd (by kernel_rfl) ?_
          refine rd_v rfl (v_move rfl) ?_
          refine rd_v rfl (v_move rfl) ?_
          refine asd_inv h fun q66 h => ?_
          refine rd_v rfl (v_sl (l := y7.1) rfl (fun _ _ h => h) sl23 (.inl ⟨rfl, rfl⟩) (.inr ⟨_, rfl, rfl⟩) q66.1 q66.2.1 q66.2.2) ?_
          refine rd_v rfl (v_move rfl) ?_
          refine rd_v rfl (v_move rfl) ?_
          refine cal_inv h fun y67 hy67 h => ?_
          refine rd_v rfl (v_ix (l := y58) rfl (fun _ _ h => h) rfl sl23 hy67) ?_
          refine rd_v rfl (v_loadI ty3 rfl) ?_
          refine cal_inv h fun y68 hy68 h => ?_
          refine rd_t rfl rfl (t_call (h_In_int_w hy68) hT (.same rfl (.same rfl .nil)) .nil (fun R H' hR => ?_))
          obtain ⟨rfl, rfl⟩ := hR
          refine rd_v rfl (v_not rfl) ?_
          refine rd_nil ?_
          refine fin_nxt ?_
          refine w_condM h rfl (fun _ h => ?_) (fun _ h => ?_)
          ·
           refine wsr ?_
           refine oV (v_assign rfl) ?_
           refine rnf ?_
           refine w_ret ?_
           refine ret_block ?_
           refine ret_nxt ?_
           refine rL60 _ ?_
           refine ret_block ?_
           refine ret_block ?_
           refine ret_nxt ?_
           refine rL17 _ ?_
           refine ret_block ?_
           refine ret_nxt ?_
           refine ret_post (.tmp rfl .nil) .nil ?_
           obtain rfl := Option.some.inj h
           exact ⟨rfl, rfl⟩
          ·
           refine w_skip ?_
           refine fin_block ?_
           refine fin_nxt ?_
           refine w_region ?_
           refine oV (v_move rfl) ?_
           refine ck_inv h fun q69 h => ?_
           refine oV (v_add rfl rfl q69) ?_
           refine oV (v_assign rfl) ?_
           refine rl_nil ?_
           exact hL60 _ () h _ (join_imp 17 rfl rfl (mod_cons (j := 11) rfl (fun _ _ h => h) mod_nil) .nil)
         ·
          refine w_exit ?_
          refine exi_nxt ?_
          refine eL60 _ _ ?_
          refine exi_block ?_
          refine fin_block ?_
          refine fin_nxt ?_
          refine w_region ?_
          refine oV (v_move rfl) ?_
          refine ck_inv h fun q70 h => ?_
          refine oV (v_add rfl rfl q70) ?_
          refine oV (v_assign rfl) ?_
          refine rl_nil ?_
          exact hL17 _ () h _ (join_imp 34 rfl rfl (mod_cons (j := 9) rfl (fun _ _ h => h) mod_nil) .nil)
       ·
        refine rd_condM (j := 65) h rfl (fun g52 h => ?_) (fun g52 h => ?_)
        ·
         refine rd_passV rfl rfl (dj := 65) rfl g52 ?_
         refine rd_passV rfl rfl (dj := 65) rfl g52 ?_
         refine rd_passV rfl rfl (dj := 65) rfl g52 ?_
         refine rd_passV rfl rfl (dj := 65) rfl g52 ?_
         refine rd_passV rfl rfl (dj := 65) rfl g52 ?_
         refine rd_passV rfl rfl (dj := 65) rfl g52 ?_
         refine rd_passV rfl rfl (dj := 65) rfl g52 ?_
         refine rd_passT rfl rfl (dj := 65) rfl g52 ?_
         refine rd_v rfl (v_pick_t rfl g52 rfl) ?_
         exact hJ51 _ () h _ (join_imp 9 rfl rfl (mod_cons (j := 74) rfl (fun _ _ h => h) mod_nil) .nil)
        ·
         refine rd_vt rfl rfl (dj := 65) rfl g52 (v_move rfl) ?_
         refine rd_vt rfl rfl (dj := 65) rfl g52 (v_move rfl) ?_
         refine asd_inv h fun q53 h => ?_
         refine rd_vt rfl rfl (dj := 65) rfl g52 (v_sl (l := y7.1) rfl (fun _ _ h => h) sl23 (.inl ⟨rfl, rfl⟩) (.inr ⟨_, rfl, rfl⟩) q53.1 q53.2.1 q53.2.2) ?_
         refine rd_vt rfl rfl (dj := 65) rfl g52 (v_move rfl) ?_
         refine rd_vt rfl rfl (dj := 65) rfl g52 (v_move rfl) ?_
         refine cal_inv h fun y54 hy54 h => ?_
         refine rd_vt rfl rfl (dj := 65) rfl g52 (v_ix (l := y7.1) rfl (fun _ _ h => h) rfl sl23 hy54) ?_
         refine rd_vt rfl rfl (dj := 65) rfl g52 (v_loadI ty3 rfl) ?_
         refine cal_inv h fun y55 hy55 h => ?_
         refine rd_tt rfl rfl rfl (dj := 65) rfl g52 (t_call (h_In_int_w hy55) hT (.same rfl (.same rfl .nil)) .nil (fun R H' hR => ?_))
         obtain ⟨rfl, rfl⟩ := hR
         refine rd_v rfl (v_pick_f rfl g52 rfl) ?_
         exact hJ51 _ () h _ (join_imp 9 rfl rfl (mod_cons (j := 74) rfl (fun _ _ h => h) mod_nil) .nil)
      ·
       refine rd_condM (j := 55) h rfl (fun g48 h => ?_) (fun g48 h => ?_)
       ·
        refine rd_passV rfl rfl (dj := 55) rfl g48 ?_
        refine rd_passV rfl rfl (dj := 55) rfl g48 ?_
        refine rd_passV rfl rfl (dj := 55) rfl g48 ?_
        refine rd_passV rfl rfl (dj := 55) rfl g48 ?_
        refine rd_passV rfl rfl (dj := 55) rfl g48 ?_
        refine rd_passV rfl rfl (dj := 55) rfl g48 ?_
        refine rd_passV rfl rfl (dj := 55) rfl g48 ?_
        refine rd_passV rfl rfl (dj := 55) rfl g48 ?_
        refine rd_v rfl (v_pick_t rfl g48 rfl) ?_
        exact hJ47 _ () h _ (join_imp 9 rfl rfl (mod_cons (j := 64) rfl (fun _ _ h => h) mod_nil) .nil)
       ·
        refine rd_vt rfl rfl (dj := 55) rfl g48 (v_move rfl) ?_
        refine rd_vt rfl rfl (dj := 55) rfl g48 (v_move rfl) ?_
        refine cal_inv h fun y49 hy49 h => ?_
        refine rd_vt rfl rfl (dj := 55) rfl g48 (v_ix (l := y7.1) rfl (fun _ _ h => h) rfl sl23 hy49) ?_
        refine rd_vt rfl rfl (dj := 55) rfl g48 (v_loadI ty3 rfl) ?_
        refine rd_vt rfl rfl (dj := 55) rfl g48 (v_fi rfl GMod.f3 fd26_3 rfl (z := y1.1.types)) ?_
        refine rd_vt rfl rfl (dj := 55) rfl g48 (v_loadI ty23 rfl) ?_
        refine rd_vt rfl rfl (dj := 55) rfl g48 (v_ln (l := y1.1.types) rfl (fun _ _ h => h) sl23) ?_
        refine rd_vt rfl rfl (dj := 55) rfl g48 (v_geq rfl rfl) ?_
        refine rd_v rfl (v_pick_f rfl g48 rfl) ?_
        exact hJ47 _ () h _ (join_imp 9 rfl rfl (mod_cons (j := 64) rfl (fun _ _ h => h) mod_nil) .nil)
     ·
      refine w_exit ?_
      refine exi_nxt ?_
      refine eL17 _ _ ?_
      refine exi_block ?_
      refine fin_nxt ?_
      refine wsr ?_
      refine oV (v_move rfl) ?_
      refine oV (v_ln (l := y7.1) rfl (fun _ _ h => h) sl23) ?_
      refine oV (v_fi rfl GMod.f2 fd26_2 rfl (z := y1.1.names)) ?_
      refine oV (v_loadI ty22 rfl) ?_
      refine oV (v_ln (l := y1.1.names) rfl (fun _ _ h => h) sl22) ?_
      refine oV (v_eql rfl rfl) ?_
      refine oV (v_assign rfl) ?_
      refine rnf ?_
      refine w_ret ?_
      refine ret_post (.tmp rfl .nil) .nil ?_
      obtain rfl := Option.some.inj h
      exact ⟨rfl, rfl⟩
   ·
    refine rl_condM (j := 34) h rfl (fun g11 h => ?_) (fun g11 h => ?_)
    ·
     refine op_pass rfl (dj := 34) rfl g11 ?_
     refine op_pass rfl (dj := 34) rfl g11 ?_
     refine oV (v_pick_t rfl g11 rfl) ?_
     exact hJ10 _ () h _ (join_imp 3 rfl rfl (mod_cons (j := 37) rfl (fun _ _ h => h) mod_nil) .nil)
    ·
     refine op_take rfl rfl (dj := 34) rfl g11 (OpV.t (v_move rfl) ?_)
     refine op_take rfl rfl (dj := 34) rfl g11 (OpV.t (v_neq rfl rfl) ?_)
     refine oV (v_pick_f rfl g11 rfl) ?_
     exact hJ10 _ () h _ (join_imp 3 rfl rfl (mod_cons (j := 37) rfl (fun _ _ h => h) mod_nil) .nil)
 ·
  refine rl_condM (j := 21) h rfl (fun g5 h => ?_) (fun g5 h => ?_)
  ·
   refine op_pass rfl (dj := 21) rfl g5 ?_
   refine op_pass rfl (dj := 21) rfl g5 ?_
   refine oV (v_pick_t rfl g5 rfl) ?_
   exact hJ4 _ () h _ (join_imp 3 rfl rfl (mod_cons (j := 24) rfl (fun _ _ h => h) mod_nil) .nil)
  ·
   refine op_take rfl rfl (dj := 21) rfl g5 (OpV.t (v_move rfl) ?_)
   refine op_take rfl rfl (dj := 21) rfl g5 (OpV.t (v_neq rfl rfl) ?_)
   refine oV (v_pick_f rfl g5 rfl) ?_
   exact hJ4 _ () h _ (join_imp 3 rfl rfl (mod_cons (j := 24) rfl (fun _ _ h => h) mod_nil) .nil)


def h_Digits_C (f' : UInt64 → Option (Str)) : Prop :=
 ∀ {a_v : UInt64} {r : Str}, f' a_v = some r → Ctr Tryd.prog 18 [isv (a_v)] [] (fun R H => R = oneOf [isv (r)] ∧ H = [])
theorem h_Digits_w0 {h_Digits' : UInt64 → Option (Str)} (h_h_Digits : h_Digits_C h_Digits') : ∀ {a_v : UInt64} {r : Str}, h_Digits_F h_Digits' a_v = some r → Ctr Tryd.prog 18 [isv (a_v)] [] (fun R H => R = oneOf [isv (r)] ∧ H = []) := by
 intro a_v r h
 unfold h_Digits_F at h
 refine spec_intro Tryd.func18 rfl (by decide +kernel) (by rfl) fun w0 S0 hT => ?_
 refine wsr ?_
 refine oV (v_assign rfl) ?_
 refine rnf ?_
 refine w_seq ?_
 refine wsr ?_
 refine oV (v_move rfl) ?_
 refine oV (v_lss64 rfl rfl) ?_
 refine rnf ?_
 refine w_condM h rfl (fun _ h => ?_) (fun _ h => ?_)
 ·
  refine wsr ?_
  refine oV (v_move rfl) ?_
  refine oV (v_add64 rfl rfl) ?_
  refine oV (v_u64u8 Tryd.underlying41 Tryd.underlying5 rfl) ?_
  refine oT (t_buildSlice (l := ([((48 : UInt64) + a_v).toUInt8] : (List UInt8))) el71 (.cons rfl (fun _ _ h => h) .nil) rfl rfl ?_)
  refine oV (v_bs (l := ([((48 : UInt64) + a_v).toUInt8] : (List UInt8))) Tryd.underlying71 Tryd.underlying5 Tryd.underlying9 rfl appv_isv) ?_
  refine oV (v_assign rfl) ?_
  refine rnf ?_
  refine w_ret ?_
  refine ret_nxt ?_
  refine ret_post (.tmp rfl .nil) .nil ?_
  obtain rfl := Option.some.inj h
  exact ⟨rfl, rfl⟩
 ·
  refine wkf ?_
  refine w_seq ?_
  refine w_J (ι := Str) (γ := Unit) (fun q2 g2 => [(2, isv (q2))]) (fun q2 g2 => []) .nil h (fun q2 g2 h => ?_) (fun J3 h hJ3 => ?_)
  ·
   refine w_ret ?_
   refine ret_post (.tmp rfl .nil) .nil ?_
   obtain rfl := Option.some.inj h
   exact ⟨rfl, rfl⟩
  ·
   refine w_regionD (.v 0 (.v 1 (.v 3 (.v 4 (.v 5 (.v 6 (.alt 2 (.t 7 (.v 8 (.v 9 (.v 10 .nil)))) (.t 7 (.v 8 (.t 2 (.v 9 (.v 10 .nil)))))))))))) moOrd (by kernel_rfl) ?_
   refine rd_v rfl (v_move rfl) ?_
   refine asr_inv h fun q4 h => ?_
   refine rd_v rfl (v_quo64 rfl rfl q4) ?_
   refine rd_v rfl (v_move rfl) ?_
   refine asr_inv h fun q5 h => ?_
   refine rd_v rfl (v_rem64 rfl rfl q5) ?_
   refine rd_v rfl (v_add64 rfl rfl) ?_
   refine rd_v rfl (v_u64u8 Tryd.underlying41 Tryd.underlying5 rfl) ?_
   refine cal_inv h fun y6 hy6 h => ?_
   refine asr_inv h fun q8 h => ?_
   refine rd_two ?_ ?_
   ·
    refine rd_t rfl rfl (t_call (h_h_Digits hy6) hT (.same rfl .nil) .nil (fun R H' hR => ?_))
    obtain ⟨rfl, rfl⟩ := hR
    refine rd_t rfl rfl (t_buildSlice (l := ([((48 : UInt64) + (a_v % (10 : UInt64))).toUInt8] : (List UInt8))) el71 (.cons rfl (fun _ _ h => h) .nil) rfl rfl ?_)
    refine rd_v rfl (v_bs (l := ([((48 : UInt64) + (a_v % (10 : UInt64))).toUInt8] : (List UInt8))) Tryd.underlying71 Tryd.underlying5 Tryd.underlying9 rfl appv_isv) ?_
    refine rd_v rfl (v_cat rfl rfl q8) ?_
    refine rd_v rfl (v_assign rfl) ?_
    refine rd_nil ?_
    exact hJ3 _ () h _ (join_imp 11 rfl rfl (mod_cons (j := 2) rfl (fun _ _ h => h) mod_nil) .nil)
   ·
    refine rd_t rfl rfl (t_buildSlice (l := ([((48 : UInt64) + (a_v % (10 : UInt64))).toUInt8] : (List UInt8))) el71 (.cons rfl (fun _ _ h => h) .nil) rfl rfl ?_)
    refine rd_v rfl (v_bs (l := ([((48 : UInt64) + (a_v % (10 : UInt64))).toUInt8] : (List UInt8))) Tryd.underlying71 Tryd.underlying5 Tryd.underlying9 rfl appv_isv) ?_
    refine rd_t rfl rfl (t_call (h_h_Digits hy6) hT (.same rfl .nil) .nil (fun R H' hR => ?_))
    obtain ⟨rfl, rfl⟩ := hR
    refine rd_v rfl (v_cat rfl rfl q8) ?_
    refine rd_v rfl (v_assign rfl) ?_
    refine rd_nil ?_
    exact hJ3 _ () h _ (join_imp 11 rfl rfl (mod_cons (j := 2) rfl (fun _ _ h => h) mod_nil) .nil)

theorem h_Digits_grp_w : ∀ n, h_Digits_C (h_Digits n)
 | 0 => fun h => (by cases h)
 | n + 1 => h_Digits_w0 (h_Digits_grp_w n)
theorem h_Digits_w (n : Nat) : h_Digits_C (h_Digits n) := (h_Digits_grp_w n)

theorem law07_RefsCircles_w : ∀ {a_n_ : Int} {a_back : Int} {a_closed : Bool} {r : Bool}, law07_RefsCircles a_n_ a_back a_closed = some r → Ctr Tryd.prog 5 [isv (a_n_), isv (a_back), isv (a_closed)] [] (fun R H => R = oneOf [isv (r)] ∧ H = []) := by
 intro a_n_ a_back a_closed r h
 unfold law07_RefsCircles at h
 refine spec_intro Tryd.func5 rfl (by decide +kernel) (by rfl) fun w0 S0 hT => ?_
 refine wsr ?_
 refine oV (v_assign rfl) ?_
 refine rnf ?_
 refine wsr ?_
 refine oV (v_move rfl) ?_
 refine oV (v_toU Tryd.underlying3 Tryd.underlying39 rfl) ?_
 refine asr_inv h fun q1 h => ?_
 refine oV (v_rem64 rfl rfl q1) ?_
 refine ck_inv h fun q2 h => ?_
 refine oV (v_u64i Tryd.underlying39 Tryd.underlying3 rfl q2) ?_
 refine ck_inv h fun q3 h => ?_
 refine oV (v_add rfl rfl q3) ?_
 refine oV (v_assign rfl) ?_
 refine rnf ?_
 refine wsr ?_
 refine oV (v_move rfl) ?_
 refine oV (v_toU Tryd.underlying3 Tryd.underlying39 rfl) ?_
 refine oV (v_move rfl) ?_
 refine oV (v_toU Tryd.underlying3 Tryd.underlying39 rfl) ?_
 refine asr_inv h fun q4 h => ?_
 refine oV (v_rem64 rfl rfl q4) ?_
 refine ck_inv h fun q5 h => ?_
 refine oV (v_u64i Tryd.underlying39 Tryd.underlying3 rfl q5) ?_
 refine oV (v_assign rfl) ?_
 refine rnf ?_
 refine wsr ?_
 refine oV (v_assign rfl) ?_
 refine rnf ?_
 refine w_seq ?_
 refine wsr ?_
 refine oV (v_assign rfl) ?_
 refine rnf ?_
 refine w_block ?_
 refine w_lp (ι := Str × Int) (γ := Unit) (fun q6 g6 => [(7, isv (q6.1)), (8, isv (q6.2))]) (fun q6 g6 => []) h () (mod_cons (j := 7) rfl (fun _ _ h => h) (mod_cons (j := 8) rfl (fun _ _ h => h) mod_nil)) .nil (fun L7 q6 g6 Q98 h hL7 eL7 rL7 => ?_)
 refine w_seq ?_
 refine wsr ?_
 refine oV (v_move rfl) ?_
 refine oV (v_move rfl) ?_
 refine oV (v_lss rfl rfl) ?_
 refine rnf ?_
 refine w_condM h rfl (fun _ h => ?_) (fun _ h => ?_)
 ·
  refine wkf ?_
  refine w_seq ?_
  refine w_block ?_
  refine wsr ?_
  refine oV (v_move rfl) ?_
  refine ck_inv h fun q53 h => ?_
  refine oV (v_add rfl rfl q53) ?_
  refine oV (v_toU Tryd.underlying3 Tryd.underlying41 rfl) ?_
  refine cal_inv h fun y54 hy54 h => ?_
  refine oT (t_call (h_Digits_w fuel hy54) hT (.same rfl .nil) .nil (fun R H' hR => ?_))
  obtain ⟨rfl, rfl⟩ := hR
  refine asr_inv h fun q55 h => ?_
  refine oV (v_cat rfl rfl q55) ?_
  refine oV (v_assign rfl) ?_
  refine rnf ?_
  refine w_seq ?_
  refine wsr ?_
  refine oV (v_move rfl) ?_
  refine ck_inv h fun q56 h => ?_
  refine oV (v_add rfl rfl q56) ?_
  refine oV (v_move rfl) ?_
  refine oV (v_eql rfl rfl) ?_
  refine rnf ?_
  refine w_J (ι := Str) (γ := Unit) (fun q57 g57 => [(9, isv (q57))]) (fun q57 g57 => []) .nil h (fun q57 g57 h => ?_) (fun J58 h hJ58 => ?_)
  ·
   refine w_region ?_
   refine oV (v_move rfl) ?_
   refine asr_inv h fun q62 h => ?_
   refine oV (v_cat rfl rfl q62) ?_
   refine oV (v_move rfl) ?_
   refine oV (v_toU Tryd.underlying3 Tryd.underlying41 rfl) ?_
   refine cal_inv h fun y63 hy63 h => ?_
   refine oT (t_call (h_Digits_w fuel hy63) hT (.same rfl .nil) .nil (fun R H' hR => ?_))
   obtain ⟨rfl, rfl⟩ := hR
   refine asr_inv h fun q64 h => ?_
   refine oV (v_cat rfl rfl q64) ?_
   refine asr_inv h fun q65 h => ?_
   refine oV (v_cat rfl rfl q65) ?_
   refine oV (v_move rfl) ?_
   refine asr_inv h fun q66 h => ?_
   refine oV (v_cat rfl rfl q66) ?_
   refine oV (v_assign rfl) ?_
   refine rl_nil ?_
   refine fin_block ?_
   refine fin_nxt ?_
   refine w_region ?_
   refine oV (v_move rfl) ?_
   refine ck_inv h fun q67 h => ?_
   refine oV (v_add rfl rfl q67) ?_
   refine oV (v_assign rfl) ?_
   refine rl_nil ?_
   exact hL7 _ () h _ (join_imp 29 rfl rfl (mod_cons (j := 7) rfl (fun _ _ h => h) (mod_cons (j := 8) rfl (fun _ _ h => h) mod_nil)) .nil)
  ·
   refine w_condM h rfl (fun _ h => ?_) (fun _ h => ?_)
   ·
    refine wsr ?_
    refine oV (v_assign rfl) ?_
    refine rnf ?_
    refine wsr ?_
    refine oV (v_move rfl) ?_
    refine rnf ?_
    refine w_condM h rfl (fun _ h => ?_) (fun _ h => ?_)
    ·
     refine w_region ?_
     refine oV (v_move rfl) ?_
     refine oV (v_toU Tryd.underlying3 Tryd.underlying41 rfl) ?_
     refine cal_inv h fun y59 hy59 h => ?_
     refine oT (t_call (h_Digits_w fuel hy59) hT (.same rfl .nil) .nil (fun R H' hR => ?_))
     obtain ⟨rfl, rfl⟩ := hR
     refine asr_inv h fun q60 h => ?_
     refine oV (v_cat rfl rfl q60) ?_
     refine asr_inv h fun q61 h => ?_
     refine oV (v_cat rfl rfl q61) ?_
     refine oV (v_assign rfl) ?_
     refine rl_nil ?_
     exact hJ58 _ () h _ (join_imp 8 rfl rfl (mod_cons (j := 9) rfl (fun _ _ h => h) mod_nil) .nil)
    ·
     refine w_skip ?_
     exact hJ58 _ () h _ (join_imp 2 rfl rfl (mod_cons (j := 9) rfl (fun _ _ h => h) mod_nil) .nil)
   ·
    refine w_skip ?_
    exact hJ58 _ () h _ (join_imp 0 rfl rfl (mod_cons (j := 9) rfl (fun _ _ h => h) mod_nil) .nil)
 ·
  refine w_exit ?_
  refine exi_nxt ?_
  refine eL7 _ _ ?_
  refine exi_block ?_
  refine fin_nxt ?_
  refine wsr ?_
  refine oV (v_move rfl) ?_
  refine asr_inv h fun q68 h => ?_
  refine oV (v_cat rfl rfl q68) ?_
  refine asr_inv h fun q69 h => ?_
  refine oV (v_cat rfl rfl q69) ?_
  refine cal_inv h fun y70 hy70 h => ?_
  refine oT (t_call (r05_Parse_w hy70) hT (.same rfl .nil) .nil (fun R H' hR => ?_))
  obtain ⟨rfl, rfl⟩ := hR
  refine oV (v_move rfl) ?_
  refine oV (v_extract rfl rfl) ?_
  refine oV (v_extract rfl rfl) ?_
  refine oV (v_extract rfl rfl) ?_
  refine oT (t_alloc _ ze26 fun b71 => ?_)
  refine oT (t_storeC (y' := (y70.1 : GMod)) ty26 rfl rfl (fun _ _ h => h) .here rfl ?_)
  refine rl_upd (upd_imm 10 .here rfl) ?_
  refine oV (v_assign rfl) ?_
  refine oV (v_assign rfl) ?_
  refine rnf ?_
  refine wsr ?_
  refine oV (v_loadI ty26 rfl) ?_
  refine cal_inv h fun y72 hy72 h => ?_
  refine oT (t_call (refs_Order_w hy72) hT (.same rfl .nil) .nil (fun R H' hR => ?_))
  obtain ⟨rfl, rfl⟩ := hR
  refine oV (v_move rfl) ?_
  refine oV (v_extract rfl rfl) ?_
  refine oV (v_extract rfl rfl) ?_
  refine oV (v_extract rfl rfl) ?_
  refine oV (v_assign rfl) ?_
  refine oV (v_assign rfl) ?_
  refine oV (v_assign rfl) ?_
  refine rnf ?_
  refine wsr ?_
  refine cal_inv h fun y73 hy73 h => ?_
  refine oT (t_call (law07_awake_w hy73) hT .nil .nil (fun R H' hR => ?_))
  obtain ⟨rfl, rfl⟩ := hR
  refine oV (v_move rfl) ?_
  refine rl_j (ι := Bool) (γ := Unit) (fun q74 g74 => [(74, isv (q74))]) (fun q74 g74 => []) .nil h 3 rfl (fun q74 g74 h => ?_) (fun J75 h hJ75 => ?_)
  ·
   refine oV (v_move rfl) ?_
   refine rl_j (ι := Bool) (γ := Unit) (fun q77 g77 => [(105, isv (q77))]) (fun q77 g77 => []) .nil h 30 rfl (fun q77 g77 h => ?_) (fun J78 h hJ78 => ?_)
   ·
    refine oV (v_assign rfl) ?_
    refine rnf ?_
    refine w_ret ?_
    refine ret_post (.tmp rfl .nil) .nil ?_
    obtain rfl := Option.some.inj h
    exact ⟨rfl, rfl⟩
   ·
    refine rl_condM (j := 75) h rfl (fun g79 h => ?_) (fun g79 h => ?_)
    ·
     refine op_take rfl rfl (dj := 75) rfl g79 (OpV.t (v_move rfl) ?_)
     refine op_take rfl rfl (dj := 75) rfl g79 (OpV.t (v_move rfl) ?_)
     refine rl_j (ι := Bool) (γ := Unit) (fun q80 g80 => [(80, isv (q80))]) (fun q80 g80 => []) .nil h 3 rfl (fun q80 g80 h => ?_) (fun J81 h hJ81 => ?_)
     ·
      refine op_take rfl rfl (dj := 75) rfl g79 (OpV.t (v_move rfl) ?_)
      refine rl_j (ι := Bool) (γ := Unit) (fun q83 g83 => [(85, isv (q83))]) (fun q83 g83 => []) .nil h 4 rfl (fun q83 g83 h => ?_) (fun J84 h hJ84 => ?_)
      ·
       refine op_take rfl rfl (dj := 75) rfl g79 (OpV.t (v_move rfl) ?_)
       refine rl_j (ι := Bool) (γ := Unit) (fun q86 g86 => [(90, isv (q86))]) (fun q86 g86 => []) .nil h 4 rfl (fun q86 g86 h => ?_) (fun J87 h hJ87 => ?_)
       ·
        refine op_take rfl rfl (dj := 75) rfl g79 (OpV.t (v_move rfl) ?_)
        refine rl_j (ι := Bool) (γ := Unit) (fun q89 g89 => [(104, isv (q89))]) (fun q89 g89 => []) .nil h 13 rfl (fun q89 g89 h => ?_) (fun J90 h hJ90 => ?_)
        ·
         refine oV (v_pick_t rfl g79 rfl) ?_
         exact hJ78 _ () h _ (join_imp 10 rfl rfl (mod_cons (j := 105) rfl (fun _ _ h => h) mod_nil) .nil)
        ·
         refine rl_condM (j := 91) h rfl (fun g91 h => ?_) (fun g91 h => ?_)
         ·
          refine op_pass rfl (dj := 91) rfl g91 ?_
          refine op_pass rfl (dj := 91) rfl g91 ?_
          refine op_pass rfl (dj := 91) rfl g91 ?_
          refine op_passU rfl (dj := 94) rfl ?_
          refine op_passU rfl (dj := 94) rfl ?_
          refine op_pass rfl (dj := 91) rfl g91 ?_
          refine op_pass rfl (dj := 91) rfl g91 ?_
          refine op_passU rfl (dj := 98) rfl ?_
          refine op_passU rfl (dj := 98) rfl ?_
          refine op_passU rfl (dj := 98) rfl ?_
          refine op_passU rfl (dj := 98) rfl ?_
          refine op_pass rfl (dj := 91) rfl g91 ?_
          refine op_take rfl rfl (dj := 75) rfl g79 (OpV.t (v_pick_t rfl g91 rfl) ?_)
          exact hJ90 _ () h _ (join_imp 13 rfl rfl (mod_cons (j := 104) rfl (fun _ _ h => h) mod_nil) .nil)
         ·
          refine op_take rfl rfl (dj := 91) rfl g91 (OpV.t (v_move rfl) ?_)
          refine op_take rfl rfl (dj := 91) rfl g91 (OpV.t (v_not rfl) ?_)
          refine op_take rfl rfl (dj := 91) rfl g91 (OpV.t (v_move rfl) ?_)
          refine rl_j (ι := Bool) (γ := Unit) (fun q92 g92 => [(97, isv (q92))]) (fun q92 g92 => []) .nil h 3 rfl (fun q92 g92 h => ?_) (fun J93 h hJ93 => ?_)
          ·
           refine op_take rfl rfl (dj := 91) rfl g91 (OpV.t (v_move rfl) ?_)
           refine rl_j (ι := Bool) (γ := Unit) (fun q95 g95 => [(103, isv (q95))]) (fun q95 g95 => []) .nil h 5 rfl (fun q95 g95 h => ?_) (fun J96 h hJ96 => ?_)
           ·
            refine op_take rfl rfl (dj := 75) rfl g79 (OpV.t (v_pick_f rfl g91 rfl) ?_)
            exact hJ90 _ () h _ (join_imp 7 rfl rfl (mod_cons (j := 104) rfl (fun _ _ h => h) mod_nil) .nil)
           ·
            refine rl_condM (j := 98) h rfl (fun g97 h => ?_) (fun g97 h => ?_)
            ·
             refine op_take rfl rfl (dj := 98) rfl g97 (OpV.t (v_move rfl) ?_)
             refine op_take rfl rfl (dj := 98) rfl g97 (OpV.t (v_ln (l := y72.1) rfl (fun _ _ h => h) sl23) ?_)
             refine op_take rfl rfl (dj := 98) rfl g97 (OpV.t (v_move rfl) ?_)
             refine op_take rfl rfl (dj := 98) rfl g97 (OpV.t (v_eql rfl rfl) ?_)
             refine op_take rfl rfl (dj := 91) rfl g91 (OpV.t (v_pick_t rfl g97 rfl) ?_)
             exact hJ96 _ () h _ (join_imp 5 rfl rfl (mod_cons (j := 103) rfl (fun _ _ h => h) mod_nil) .nil)
            ·
             refine op_pass rfl (dj := 98) rfl g97 ?_
             refine op_pass rfl (dj := 98) rfl g97 ?_
             refine op_pass rfl (dj := 98) rfl g97 ?_
             refine op_pass rfl (dj := 98) rfl g97 ?_
             refine op_take rfl rfl (dj := 91) rfl g91 (OpV.t (v_pick_f rfl g97 rfl) ?_)
             exact hJ96 _ () h _ (join_imp 5 rfl rfl (mod_cons (j := 103) rfl (fun _ _ h => h) mod_nil) .nil)
          ·
           refine rl_condM (j := 94) h rfl (fun g94 h => ?_) (fun g94 h => ?_)
           ·
            refine op_take rfl rfl (dj := 94) rfl g94 (OpV.t (v_move rfl) ?_)
            refine op_take rfl rfl (dj := 94) rfl g94 (OpV.t (v_eql rfl rfl) ?_)
            refine op_take rfl rfl (dj := 91) rfl g91 (OpV.t (v_pick_t rfl g94 rfl) ?_)
            exact hJ93 _ () h _ (join_imp 3 rfl rfl (mod_cons (j := 97) rfl (fun _ _ h => h) mod_nil) .nil)
           ·
            refine op_pass rfl (dj := 94) rfl g94 ?_
            refine op_pass rfl (dj := 94) rfl g94 ?_
            refine op_take rfl rfl (dj := 91) rfl g91 (OpV.t (v_pick_f rfl g94 rfl) ?_)
            exact hJ93 _ () h _ (join_imp 3 rfl rfl (mod_cons (j := 97) rfl (fun _ _ h => h) mod_nil) .nil)
       ·
        refine rl_condM (j := 86) h rfl (fun g88 h => ?_) (fun g88 h => ?_)
        ·
         refine op_take rfl rfl (dj := 86) rfl g88 (OpV.t (v_move rfl) ?_)
         refine op_take rfl rfl (dj := 86) rfl g88 (OpV.t (v_ln (l := y72.1) rfl (fun _ _ h => h) sl23) ?_)
         refine op_take rfl rfl (dj := 86) rfl g88 (OpV.t (v_eql rfl rfl) ?_)
         refine op_take rfl rfl (dj := 75) rfl g79 (OpV.t (v_pick_t rfl g88 rfl) ?_)
         exact hJ87 _ () h _ (join_imp 4 rfl rfl (mod_cons (j := 90) rfl (fun _ _ h => h) mod_nil) .nil)
        ·
         refine op_pass rfl (dj := 86) rfl g88 ?_
         refine op_pass rfl (dj := 86) rfl g88 ?_
         refine op_pass rfl (dj := 86) rfl g88 ?_
         refine op_take rfl rfl (dj := 75) rfl g79 (OpV.t (v_pick_f rfl g88 rfl) ?_)
         exact hJ87 _ () h _ (join_imp 4 rfl rfl (mod_cons (j := 90) rfl (fun _ _ h => h) mod_nil) .nil)
      ·
       refine rl_condM (j := 81) h rfl (fun g85 h => ?_) (fun g85 h => ?_)
       ·
        refine op_take rfl rfl (dj := 81) rfl g85 (OpV.t (v_move rfl) ?_)
        refine op_take rfl rfl (dj := 81) rfl g85 (OpV.t (v_move rfl) ?_)
        refine op_take rfl rfl (dj := 81) rfl g85 (OpV.t (v_eql rfl rfl) ?_)
        refine op_take rfl rfl (dj := 75) rfl g79 (OpV.t (v_pick_t rfl g85 rfl) ?_)
        exact hJ84 _ () h _ (join_imp 4 rfl rfl (mod_cons (j := 85) rfl (fun _ _ h => h) mod_nil) .nil)
       ·
        refine op_pass rfl (dj := 81) rfl g85 ?_
        refine op_pass rfl (dj := 81) rfl g85 ?_
        refine op_pass rfl (dj := 81) rfl g85 ?_
        refine op_take rfl rfl (dj := 75) rfl g79 (OpV.t (v_pick_f rfl g85 rfl) ?_)
        exact hJ84 _ () h _ (join_imp 4 rfl rfl (mod_cons (j := 85) rfl (fun _ _ h => h) mod_nil) .nil)
     ·
      refine rl_condM (j := 77) h rfl (fun g82 h => ?_) (fun g82 h => ?_)
      ·
       refine op_take rfl rfl (dj := 77) rfl g82 (OpV.t (v_move rfl) ?_)
       refine op_take rfl rfl (dj := 77) rfl g82 (OpV.t (v_eql rfl rfl) ?_)
       refine op_take rfl rfl (dj := 75) rfl g79 (OpV.t (v_pick_t rfl g82 rfl) ?_)
       exact hJ81 _ () h _ (join_imp 3 rfl rfl (mod_cons (j := 80) rfl (fun _ _ h => h) mod_nil) .nil)
      ·
       refine op_pass rfl (dj := 77) rfl g82 ?_
       refine op_pass rfl (dj := 77) rfl g82 ?_
       refine op_take rfl rfl (dj := 75) rfl g79 (OpV.t (v_pick_f rfl g82 rfl) ?_)
       exact hJ81 _ () h _ (join_imp 3 rfl rfl (mod_cons (j := 80) rfl (fun _ _ h => h) mod_nil) .nil)
    ·
     refine op_pass rfl (dj := 75) rfl g79 ?_
     refine op_pass rfl (dj := 75) rfl g79 ?_
     refine op_passU rfl (dj := 77) rfl ?_
     refine op_passU rfl (dj := 77) rfl ?_
     refine op_pass rfl (dj := 75) rfl g79 ?_
     refine op_pass rfl (dj := 75) rfl g79 ?_
     refine op_passU rfl (dj := 81) rfl ?_
     refine op_passU rfl (dj := 81) rfl ?_
     refine op_passU rfl (dj := 81) rfl ?_
     refine op_pass rfl (dj := 75) rfl g79 ?_
     refine op_pass rfl (dj := 75) rfl g79 ?_
     refine op_passU rfl (dj := 86) rfl ?_
     refine op_passU rfl (dj := 86) rfl ?_
     refine op_passU rfl (dj := 86) rfl ?_
     refine op_pass rfl (dj := 75) rfl g79 ?_
     refine op_pass rfl (dj := 75) rfl g79 ?_
     refine op_passU rfl (dj := 91) rfl ?_
     refine op_passU rfl (dj := 91) rfl ?_
     refine op_passU rfl (dj := 91) rfl ?_
     refine op_passU rfl (dj := 94) rfl ?_
     refine op_passU rfl (dj := 94) rfl ?_
     refine op_passU rfl (dj := 91) rfl ?_
     refine op_passU rfl (dj := 91) rfl ?_
     refine op_passU rfl (dj := 98) rfl ?_
     refine op_passU rfl (dj := 98) rfl ?_
     refine op_passU rfl (dj := 98) rfl ?_
     refine op_passU rfl (dj := 98) rfl ?_
     refine op_passU rfl (dj := 91) rfl ?_
     refine op_pass rfl (dj := 75) rfl g79 ?_
     refine oV (v_pick_f rfl g79 rfl) ?_
     exact hJ78 _ () h _ (join_imp 30 rfl rfl (mod_cons (j := 105) rfl (fun _ _ h => h) mod_nil) .nil)
  ·
   refine rl_condM (j := 71) h rfl (fun g76 h => ?_) (fun g76 h => ?_)
   ·
    refine op_take rfl rfl (dj := 71) rfl g76 (OpV.t (v_move rfl) ?_)
    refine op_take rfl rfl (dj := 71) rfl g76 (OpV.t (v_eql rfl rfl) ?_)
    refine oV (v_pick_t rfl g76 rfl) ?_
    exact hJ75 _ () h _ (join_imp 3 rfl rfl (mod_cons (j := 74) rfl (fun _ _ h => h) mod_nil) .nil)
   ·
    refine op_pass rfl (dj := 71) rfl g76 ?_
    refine op_pass rfl (dj := 71) rfl g76 ?_
    refine oV (v_pick_f rfl g76 rfl) ?_
    exact hJ75 _ () h _ (join_imp 3 rfl rfl (mod_cons (j := 74) rfl (fun _ _ h => h) mod_nil) .nil)

end Go.Proofs.YtdcdndflfhaejaaDoor

