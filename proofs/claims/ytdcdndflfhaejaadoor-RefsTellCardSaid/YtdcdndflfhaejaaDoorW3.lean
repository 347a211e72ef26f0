/- Walks, printed by mill.py. -/
import Derived.Test.YtdcdndflfhaejaaDoorW2
namespace Go.Proofs.YtdcdndflfhaejaaDoor
open Go.Sy
set_option maxRecDepth 4000
def r05_parser_field_C (f' : GPar → GNode → Int → Int → Option (GPar × GNode)) : Prop :=
  ∀ {a_x : GPar} {a_n_ : GNode} {a_depth : Int} {a_group : Int} {b_a_x : Nat} {t_a_x1 : Tok} {t_a_x2 : Tok} {v_a_x3 : Vt} {b_a_n_ : Nat} {t_a_n_4 : Tok} {t_a_n_5 : Tok} {r : GPar × GNode}, f' a_x a_n_ a_depth a_group = some r → Ctr Tryd.prog 70 [ptrv b_a_x (Fld.id ((List GTok) × Int × (Str × Int × (TList Str) × (TList Int) × Vh) × Int × Int)), ptrv b_a_n_ (Fld.id (Int × Str × GMark × GCon × (TList GItem) × (TList GFld) × Int × Bool × Int)), isv (a_depth), isv (a_group)] [boxE b_a_x ((a_x.l, a_x.at_, (a_x.m.name, a_x.m.tagging, (TList.mk t_a_x1 a_x.m.names), (TList.mk t_a_x2 a_x.m.types), (Vh.mk v_a_x3 a_x.m.nodes.length)), a_x.e, a_x.p) : ((List GTok) × Int × (Str × Int × (TList Str) × (TList Int) × Vh) × Int × Int)), tokE t_a_x1, tokE t_a_x2, vecE v_a_x3 (a_x.m.nodes : List GNode), boxE b_a_n_ ((a_n_.kind, a_n_.name, a_n_.mark, a_n_.con, (TList.mk t_a_n_4 a_n_.items), (TList.mk t_a_n_5 a_n_.fields), a_n_.root, a_n_.more, a_n_.of) : (Int × Str × GMark × GCon × (TList GItem) × (TList GFld) × Int × Bool × Int)), tokE t_a_n_4, tokE t_a_n_5] (fun R H => ∃ u1 : Tok, ∃ u2 : Tok, ∃ u3 : Vt, ∃ u4 : Tok, ∃ u5 : Tok, R = oneOf [] ∧ H = [boxE b_a_x ((r.1.l, r.1.at_, (r.1.m.name, r.1.m.tagging, (TList.mk u1 r.1.m.names), (TList.mk u2 r.1.m.types), (Vh.mk u3 r.1.m.nodes.length)), r.1.e, r.1.p)), tokE u1, tokE u2, vecE u3 (r.1.m.nodes), boxE b_a_n_ ((r.2.kind, r.2.name, r.2.mark, r.2.con, (TList.mk u4 r.2.items), (TList.mk u5 r.2.fields), r.2.root, r.2.more, r.2.of)), tokE u4, tokE u5])
def r05_parser_typ_C (f' : GPar → Int → Option (Int × GPar)) : Prop :=
  ∀ {a_x : GPar} {a_depth : Int} {b_a_x : Nat} {t_a_x1 : Tok} {t_a_x2 : Tok} {v_a_x3 : Vt} {r : Int × GPar}, f' a_x a_depth = some r → Ctr Tryd.prog 25 [ptrv b_a_x (Fld.id ((List GTok) × Int × (Str × Int × (TList Str) × (TList Int) × Vh) × Int × Int)), isv (a_depth)] [boxE b_a_x ((a_x.l, a_x.at_, (a_x.m.name, a_x.m.tagging, (TList.mk t_a_x1 a_x.m.names), (TList.mk t_a_x2 a_x.m.types), (Vh.mk v_a_x3 a_x.m.nodes.length)), a_x.e, a_x.p) : ((List GTok) × Int × (Str × Int × (TList Str) × (TList Int) × Vh) × Int × Int)), tokE t_a_x1, tokE t_a_x2, vecE v_a_x3 (a_x.m.nodes : List GNode)] (fun R H => ∃ u1 : Tok, ∃ u2 : Tok, ∃ u3 : Vt, R = oneOf [isv (r.1)] ∧ H = [boxE b_a_x ((r.2.l, r.2.at_, (r.2.m.name, r.2.m.tagging, (TList.mk u1 r.2.m.names), (TList.mk u2 r.2.m.types), (Vh.mk u3 r.2.m.nodes.length)), r.2.e, r.2.p)), tokE u1, tokE u2, vecE u3 (r.2.m.nodes)])
def r05_parser_base_C (f' : GPar → GNode → Int → Option (GPar × GNode)) : Prop :=
  ∀ {a_x : GPar} {a_n_ : GNode} {a_depth : Int} {b_a_x : Nat} {t_a_x1 : Tok} {t_a_x2 : Tok} {v_a_x3 : Vt} {b_a_n_ : Nat} {t_a_n_4 : Tok} {t_a_n_5 : Tok} {r : GPar × GNode}, f' a_x a_n_ a_depth = some r → Ctr Tryd.prog 43 [ptrv b_a_x (Fld.id ((List GTok) × Int × (Str × Int × (TList Str) × (TList Int) × Vh) × Int × Int)), ptrv b_a_n_ (Fld.id (Int × Str × GMark × GCon × (TList GItem) × (TList GFld) × Int × Bool × Int)), isv (a_depth)] [boxE b_a_x ((a_x.l, a_x.at_, (a_x.m.name, a_x.m.tagging, (TList.mk t_a_x1 a_x.m.names), (TList.mk t_a_x2 a_x.m.types), (Vh.mk v_a_x3 a_x.m.nodes.length)), a_x.e, a_x.p) : ((List GTok) × Int × (Str × Int × (TList Str) × (TList Int) × Vh) × Int × Int)), tokE t_a_x1, tokE t_a_x2, vecE v_a_x3 (a_x.m.nodes : List GNode), boxE b_a_n_ ((a_n_.kind, a_n_.name, a_n_.mark, a_n_.con, (TList.mk t_a_n_4 a_n_.items), (TList.mk t_a_n_5 a_n_.fields), a_n_.root, a_n_.more, a_n_.of) : (Int × Str × GMark × GCon × (TList GItem) × (TList GFld) × Int × Bool × Int)), tokE t_a_n_4, tokE t_a_n_5] (fun R H => ∃ u1 : Tok, ∃ u2 : Tok, ∃ u3 : Vt, ∃ u4 : Tok, ∃ u5 : Tok, R = oneOf [] ∧ H = [boxE b_a_x ((r.1.l, r.1.at_, (r.1.m.name, r.1.m.tagging, (TList.mk u1 r.1.m.names), (TList.mk u2 r.1.m.types), (Vh.mk u3 r.1.m.nodes.length)), r.1.e, r.1.p)), tokE u1, tokE u2, vecE u3 (r.1.m.nodes), boxE b_a_n_ ((r.2.kind, r.2.name, r.2.mark, r.2.con, (TList.mk u4 r.2.items), (TList.mk u5 r.2.fields), r.2.root, r.2.more, r.2.of)), tokE u4, tokE u5])
def r05_parser_fields_C (f' : GPar → GNode → Int → Option (GPar × GNode)) : Prop :=
  ∀ {a_x : GPar} {a_n_ : GNode} {a_depth : Int} {b_a_x : Nat} {t_a_x1 : Tok} {t_a_x2 : Tok} {v_a_x3 : Vt} {b_a_n_ : Nat} {t_a_n_4 : Tok} {t_a_n_5 : Tok} {r : GPar × GNode}, f' a_x a_n_ a_depth = some r → Ctr Tryd.prog 64 [ptrv b_a_x (Fld.id ((List GTok) × Int × (Str × Int × (TList Str) × (TList Int) × Vh) × Int × Int)), ptrv b_a_n_ (Fld.id (Int × Str × GMark × GCon × (TList GItem) × (TList GFld) × Int × Bool × Int)), isv (a_depth)] [boxE b_a_x ((a_x.l, a_x.at_, (a_x.m.name, a_x.m.tagging, (TList.mk t_a_x1 a_x.m.names), (TList.mk t_a_x2 a_x.m.types), (Vh.mk v_a_x3 a_x.m.nodes.length)), a_x.e, a_x.p) : ((List GTok) × Int × (Str × Int × (TList Str) × (TList Int) × Vh) × Int × Int)), tokE t_a_x1, tokE t_a_x2, vecE v_a_x3 (a_x.m.nodes : List GNode), boxE b_a_n_ ((a_n_.kind, a_n_.name, a_n_.mark, a_n_.con, (TList.mk t_a_n_4 a_n_.items), (TList.mk t_a_n_5 a_n_.fields), a_n_.root, a_n_.more, a_n_.of) : (Int × Str × GMark × GCon × (TList GItem) × (TList GFld) × Int × Bool × Int)), tokE t_a_n_4, tokE t_a_n_5] (fun R H => ∃ u1 : Tok, ∃ u2 : Tok, ∃ u3 : Vt, ∃ u4 : Tok, ∃ u5 : Tok, R = oneOf [] ∧ H = [boxE b_a_x ((r.1.l, r.1.at_, (r.1.m.name, r.1.m.tagging, (TList.mk u1 r.1.m.names), (TList.mk u2 r.1.m.types), (Vh.mk u3 r.1.m.nodes.length)), r.1.e, r.1.p)), tokE u1, tokE u2, vecE u3 (r.1.m.nodes), boxE b_a_n_ ((r.2.kind, r.2.name, r.2.mark, r.2.con, (TList.mk u4 r.2.items), (TList.mk u5 r.2.fields), r.2.root, r.2.more, r.2.of)), tokE u4, tokE u5])
theorem r05_parser_field_w0 {r05_parser_field' : GPar → GNode → Int → Int → Option (GPar × GNode)} {r05_parser_typ' : GPar → Int → Option (Int × GPar)} {r05_parser_base' : GPar → GNode → Int → Option (GPar × GNode)} {r05_parser_fields' : GPar → GNode → Int → Option (GPar × GNode)} (h_r05_parser_field : r05_parser_field_C r05_parser_field') (h_r05_parser_typ : r05_parser_typ_C r05_parser_typ') (h_r05_parser_base : r05_parser_base_C r05_parser_base') (h_r05_parser_fields : r05_parser_fields_C r05_parser_fields') : ∀ {a_x : GPar} {a_n_ : GNode} {a_depth : Int} {a_group : Int} {b_a_x : Nat} {t_a_x1 : Tok} {t_a_x2 : Tok} {v_a_x3 : Vt} {b_a_n_ : Nat} {t_a_n_4 : Tok} {t_a_n_5 : Tok} {r : GPar × GNode}, r05_parser_field_F r05_parser_field' r05_parser_typ' r05_parser_base' r05_parser_fields' a_x a_n_ a_depth a_group = some r → Ctr Tryd.prog 70 [ptrv b_a_x (Fld.id ((List GTok) × Int × (Str × Int × (TList Str) × (TList Int) × Vh) × Int × Int)), ptrv b_a_n_ (Fld.id (Int × Str × GMark × GCon × (TList GItem) × (TList GFld) × Int × Bool × Int)), isv (a_depth), isv (a_group)] [boxE b_a_x ((a_x.l, a_x.at_, (a_x.m.name, a_x.m.tagging, (TList.mk t_a_x1 a_x.m.names), (TList.mk t_a_x2 a_x.m.types), (Vh.mk v_a_x3 a_x.m.nodes.length)), a_x.e, a_x.p) : ((List GTok) × Int × (Str × Int × (TList Str) × (TList Int) × Vh) × Int × Int)), tokE t_a_x1, tokE t_a_x2, vecE v_a_x3 (a_x.m.nodes : List GNode), boxE b_a_n_ ((a_n_.kind, a_n_.name, a_n_.mark, a_n_.con, (TList.mk t_a_n_4 a_n_.items), (TList.mk t_a_n_5 a_n_.fields), a_n_.root, a_n_.more, a_n_.of) : (Int × Str × GMark × GCon × (TList GItem) × (TList GFld) × Int × Bool × Int)), tokE t_a_n_4, tokE t_a_n_5] (fun R H => ∃ u1 : Tok, ∃ u2 : Tok, ∃ u3 : Vt, ∃ u4 : Tok, ∃ u5 : Tok, R = oneOf [] ∧ H = [boxE b_a_x ((r.1.l, r.1.at_, (r.1.m.name, r.1.m.tagging, (TList.mk u1 r.1.m.names), (TList.mk u2 r.1.m.types), (Vh.mk u3 r.1.m.nodes.length)), r.1.e, r.1.p)), tokE u1, tokE u2, vecE u3 (r.1.m.nodes), boxE b_a_n_ ((r.2.kind, r.2.name, r.2.mark, r.2.con, (TList.mk u4 r.2.items), (TList.mk u5 r.2.fields), r.2.root, r.2.more, r.2.of)), tokE u4, tokE u5]) := by
  intro a_x a_n_ a_depth a_group b_a_x t_a_x1 t_a_x2 v_a_x3 b_a_n_ t_a_n_4 t_a_n_5 r h
  unfold r05_parser_field_F at h
  refine spec_intro Tryd.func70 rfl (by decide +kernel) (by rfl) fun w0 S0 hT => ?_
  refine w_seq ?_
  refine w_region ?_
  refine op_cons rfl (OpV.t (v_move rfl) ?_)
  refine cal_inv h fun y6 hy6 h => ?_
  refine op_cons rfl (t_call (r05_parser_kind_w hy6) hT (.same rfl (.same rfl .nil)) (.cons .here (.cons .here (.cons .here (.cons .here .nil)))) (fun R H' hR => ?_))
  obtain ⟨t7, t8, v9, rfl, rfl⟩ := hR
  refine op_cons rfl (OpV.t (v_move rfl) ?_)
  refine op_cons rfl (OpV.t (v_build (z := (GFld.mk y6.1 (0 : Int) false false (Val.mk (0 : Int) (0 : Int) ([] : (List UInt8)) ([] : (List Val)) (0 : Int) ([] : (List Raw))) a_group)) rfl bu97 ze97 (.cons GFld.f0 fd97_0 rfl (fun _ _ h => h) (.cons GFld.f5 fd97_5 rfl (fun _ _ h => h) .nil))) ?_)
  refine op_cons rfl (t_alloc _ ze97 fun b10 => ?_)
  refine op_cons rfl (t_storeC (y' := ((GFld.mk y6.1 (0 : Int) false false (Val.mk (0 : Int) (0 : Int) ([] : (List UInt8)) ([] : (List Val)) (0 : Int) ([] : (List Raw))) a_group) : GFld)) ty97 rfl rfl (fun _ _ h => h) .here rfl ?_)
  refine rl_nil ?_
  refine fin_nxt ?_
  refine w_seq ?_
  refine w_region ?_
  refine op_cons rfl (OpV.t (v_move rfl) ?_)
  refine op_cons rfl (OpV.t (v_move rfl) ?_)
  refine ck_inv h fun q11 h => ?_
  refine op_cons rfl (OpV.t (v_add rfl rfl q11) ?_)
  refine cal_inv h fun y12 hy12 h => ?_
  refine op_cons rfl (t_call (h_r05_parser_typ hy12) hT (.same rfl (.same rfl .nil)) (.cons (.there .here) (.cons (.there .here) (.cons (.there .here) (.cons (.there .here) .nil)))) (fun R H' hR => ?_))
  obtain ⟨t13, t14, v15, rfl, rfl⟩ := hR
  refine op_cons rfl (OpV.t (v_fa rfl GFld.f1 fd97_1) ?_)
  refine op_cons rfl (t_storeC (y' := ((GFld.mk y6.1 y12.1 false false (Val.mk (0 : Int) (0 : Int) ([] : (List UInt8)) ([] : (List Val)) (0 : Int) ([] : (List Raw))) a_group) : GFld)) ty3 rfl rfl (fun _ _ h => h) (.there (.there (.there (.there .here)))) rfl ?_)
  refine rl_nil ?_
  refine fin_nxt ?_
  refine w_seq ?_
  refine w_J (ι := GFld × GPar) (γ := Tok × Tok × Vt) (fun q16 g16 => []) (fun q16 g16 => [boxE b10 (q16.1 : GFld), boxE b_a_x ((q16.2.l, q16.2.at_, (q16.2.m.name, q16.2.m.tagging, (TList.mk g16.1 q16.2.m.names), (TList.mk g16.2.1 q16.2.m.types), (Vh.mk g16.2.2 q16.2.m.nodes.length)), q16.2.e, q16.2.p) : ((List GTok) × Int × (Str × Int × (TList Str) × (TList Int) × Vh) × Int × Int)), tokE g16.1, tokE g16.2.1, vecE g16.2.2 (q16.2.m.nodes : List GNode)]) (.cons .here (.cons .here (.cons .here (.cons .here (.cons .here .nil))))) h (fun q16 g16 h => ?_) (fun J17 h hJ17 => ?_)
  · skip
    refine w_pinN 8 .here rfl (fun o30 hn31 => ?_)
    refine w_regionD (.v 0 (.v 1 (.v 2 (.v 3 (.v 5 (.two 4 (.t 6 (.t 7 (.v 8 (.v 9 (.t 10 .nil))))) 6 (.t 4 (.t 7 (.v 8 (.v 9 (.t 10 .nil))))))))))) moOrd (by kernel_rfl) ?_
    refine rd_v rfl (v_move rfl) ?_
    refine rd_v rfl (v_move rfl) ?_
    refine rd_v rfl (v_nilCheck rfl) ?_
    refine rd_v rfl (v_fa rfl pt83_0_5 fd83_5) ?_
    refine rd_v rfl (v_lpC (R := isv (q16.1)) ty97 rfl (by simp) (fun _ _ h => h)) ?_
    refine asr_inv h fun q34 h => ?_
    refine rd_two ?_ ?_
    · skip
      refine rd_t rfl rfl (t_loadC (R := appv t_a_n_5 (a_n_.fields)) ty81 rfl (.there (.there (.there (.there .here)))) isvT1 ?_)
      refine rd_t rfl rfl (t_buildSlice (l := ([q16.1] : (List GFld))) el81 (.cons rfl (fun _ _ h => h) .nil) rfl rfl ?_)
      refine rd_t rfl rfl (t_appC (l := a_n_.fields) (m := ([q16.1] : (List GFld))) ap81_81 rfl (fun _ _ h => h) rfl appv_isv (.there (.there (.there (.there (.there (.there .here)))))) q34 fun t33 => ?_)
      refine rd_v rfl (v_nilCheck rfl) ?_
      refine rd_v rfl (v_fa rfl pt83_0_5 fd83_5) ?_
      refine rd_t rfl rfl (t_storeC (y' := ((a_n_.kind, a_n_.name, a_n_.mark, a_n_.con, (TList.mk t_a_n_4 a_n_.items), (TList.mk t33 (a_n_.fields ++ ([q16.1] : (List GFld)))), a_n_.root, a_n_.more, a_n_.of) : (Int × Str × GMark × GCon × (TList GItem) × (TList GFld) × Int × Bool × Int))) ty81 rfl rfl isvT2 (.there (.there (.there (.there (.there .here))))) rfl ?_)
      refine rd_nil ?_
      refine fin_unpinN 8 hn31 rfl ?_
      refine fin_post .nil (.cons (.there (.there (.there .here))) (.cons (.there (.there (.there .here))) (.cons (.there (.there (.there .here))) (.cons (.there (.there (.there .here))) (.cons (.there .here) (.cons (.there (.there .here)) (.cons (.there .here) .nil))))))) ?_
      obtain rfl := Option.some.inj h
      exact ⟨g16.1, g16.2.1, g16.2.2, t_a_n_4, t33, rfl, rfl⟩
    · skip
      refine rd_t rfl rfl (t_buildSlice (l := ([q16.1] : (List GFld))) el81 (.cons rfl (fun _ _ h => h) .nil) rfl rfl ?_)
      refine rd_t rfl rfl (t_loadC (R := appv t_a_n_5 (a_n_.fields)) ty81 rfl (.there (.there (.there (.there .here)))) isvT1 ?_)
      refine rd_t rfl rfl (t_appC (l := a_n_.fields) (m := ([q16.1] : (List GFld))) ap81_81 rfl (fun _ _ h => h) rfl appv_isv (.there (.there (.there (.there (.there (.there .here)))))) q34 fun t36 => ?_)
      refine rd_v rfl (v_nilCheck rfl) ?_
      refine rd_v rfl (v_fa rfl pt83_0_5 fd83_5) ?_
      refine rd_t rfl rfl (t_storeC (y' := ((a_n_.kind, a_n_.name, a_n_.mark, a_n_.con, (TList.mk t_a_n_4 a_n_.items), (TList.mk t36 (a_n_.fields ++ ([q16.1] : (List GFld)))), a_n_.root, a_n_.more, a_n_.of) : (Int × Str × GMark × GCon × (TList GItem) × (TList GFld) × Int × Bool × Int))) ty81 rfl rfl isvT2 (.there (.there (.there (.there (.there .here))))) rfl ?_)
      refine rd_nil ?_
      refine fin_unpinN 8 hn31 rfl ?_
      refine fin_post .nil (.cons (.there (.there (.there .here))) (.cons (.there (.there (.there .here))) (.cons (.there (.there (.there .here))) (.cons (.there (.there (.there .here))) (.cons (.there .here) (.cons (.there (.there .here)) (.cons (.there .here) .nil))))))) ?_
      obtain rfl := Option.some.inj h
      exact ⟨g16.1, g16.2.1, g16.2.2, t_a_n_4, t36, rfl, rfl⟩
  · skip
    refine w_block ?_
    refine w_seq ?_
    refine w_region ?_
    refine op_cons rfl (OpV.t (v_move rfl) ?_)
    refine op_cons rfl (OpV.t (v_nilCheck rfl) ?_)
    refine op_cons rfl (OpV.t (v_fa rfl pt83_0_0 fd83_0) ?_)
    refine op_cons rfl (t_loadC (R := isv (a_n_.kind)) ty3 rfl (.there (.there (.there (.there (.there .here))))) (fun _ _ h => h) ?_)
    refine op_cons rfl (OpV.t (v_eql rfl rfl) ?_)
    refine op_cons rfl (OpV.t (v_assign rfl) ?_)
    refine rl_nil ?_
    refine fin_nxt ?_
    refine w_condM h rfl (fun _ h => ?_) (fun _ h => ?_)
    · skip
      refine w_skip ?_
      refine fin_block ?_
      exact hJ17 _ (t13, t14, v15) h _ (join_imp 6 rfl rfl mod_nil (.cons .here (.cons .here (.cons .here (.cons .here (.cons .here (.cons .here (.cons .here (.cons .here .nil)))))))))
    · skip
      refine w_seq ?_
      refine w_region ?_
      refine op_cons rfl (OpV.t (v_move rfl) ?_)
      refine cal_inv h fun y18 hy18 h => ?_
      refine op_cons rfl (t_call (r05_parser_is_w hy18) hT (.same rfl (.same rfl .nil)) (.cons (.there .here) (.cons (.there .here) (.cons (.there .here) (.cons (.there .here) .nil)))) (fun R H' hR => ?_))
      obtain ⟨t19, t20, v21, rfl, rfl⟩ := hR
      refine op_cons rfl (OpV.t (v_assign rfl) ?_)
      refine rl_nil ?_
      refine fin_nxt ?_
      refine w_condM h rfl (fun _ h => ?_) (fun _ h => ?_)
      · skip
        refine w_region ?_
        refine op_cons rfl (OpV.t (v_fa rfl GFld.f2 fd97_2) ?_)
        refine op_cons rfl (t_storeC (y' := ((GFld.mk y6.1 y12.1 true false (Val.mk (0 : Int) (0 : Int) ([] : (List UInt8)) ([] : (List Val)) (0 : Int) ([] : (List Raw))) a_group) : GFld)) ty4 rfl rfl (fun _ _ h => h) (.there (.there (.there (.there .here)))) rfl ?_)
        refine rl_nil ?_
        refine fin_block ?_
        exact hJ17 _ (t19, t20, v21) h _ (join_imp 10 rfl rfl mod_nil (.cons .here (.cons .here (.cons .here (.cons .here (.cons .here (.cons .here (.cons .here (.cons .here .nil)))))))))
      · skip
        refine w_seq ?_
        refine w_region ?_
        refine op_cons rfl (OpV.t (v_move rfl) ?_)
        refine cal_inv h fun y22 hy22 h => ?_
        refine op_cons rfl (t_call (r05_parser_is_w hy22) hT (.same rfl (.same rfl .nil)) (.cons .here (.cons .here (.cons .here (.cons .here .nil)))) (fun R H' hR => ?_))
        obtain ⟨t23, t24, v25, rfl, rfl⟩ := hR
        refine op_cons rfl (OpV.t (v_assign rfl) ?_)
        refine rl_nil ?_
        refine fin_nxt ?_
        refine w_condM h rfl (fun _ h => ?_) (fun _ h => ?_)
        · skip
          refine w_region ?_
          refine op_cons rfl (OpV.t (v_move rfl) ?_)
          refine cal_inv h fun y26 hy26 h => ?_
          refine op_cons rfl (t_call (r05_parser_value_w hy26) hT (.same rfl .nil) (.cons .here (.cons .here (.cons .here (.cons .here .nil)))) (fun R H' hR => ?_))
          obtain ⟨t27, t28, v29, rfl, rfl⟩ := hR
          refine op_cons rfl (OpV.t (v_fa rfl GFld.f3 fd97_3) ?_)
          refine op_cons rfl (t_storeC (y' := ((GFld.mk y6.1 y12.1 false true (Val.mk (0 : Int) (0 : Int) ([] : (List UInt8)) ([] : (List Val)) (0 : Int) ([] : (List Raw))) a_group) : GFld)) ty4 rfl rfl (fun _ _ h => h) (.there (.there (.there (.there .here)))) rfl ?_)
          refine op_cons rfl (OpV.t (v_fa rfl GFld.f4 fd97_4) ?_)
          refine op_cons rfl (t_storeC (y' := ((GFld.mk y6.1 y12.1 false true y26.1 a_group) : GFld)) ty95 rfl rfl (fun _ _ h => h) .here rfl ?_)
          refine rl_nil ?_
          refine fin_block ?_
          exact hJ17 _ (t27, t28, v29) h _ (join_imp 16 rfl rfl mod_nil (.cons .here (.cons .here (.cons .here (.cons .here (.cons .here (.cons .here (.cons .here (.cons .here .nil)))))))))
        · skip
          refine w_skip ?_
          refine fin_block ?_
          exact hJ17 _ (t23, t24, v25) h _ (join_imp 12 rfl rfl mod_nil (.cons (.there (.there (.there (.there .here)))) (.cons .here (.cons .here (.cons .here (.cons .here (.cons .here (.cons .here (.cons .here .nil)))))))))

theorem r05_parser_typ_w0 {r05_parser_field' : GPar → GNode → Int → Int → Option (GPar × GNode)} {r05_parser_typ' : GPar → Int → Option (Int × GPar)} {r05_parser_base' : GPar → GNode → Int → Option (GPar × GNode)} {r05_parser_fields' : GPar → GNode → Int → Option (GPar × GNode)} (h_r05_parser_field : r05_parser_field_C r05_parser_field') (h_r05_parser_typ : r05_parser_typ_C r05_parser_typ') (h_r05_parser_base : r05_parser_base_C r05_parser_base') (h_r05_parser_fields : r05_parser_fields_C r05_parser_fields') : ∀ {a_x : GPar} {a_depth : Int} {b_a_x : Nat} {t_a_x1 : Tok} {t_a_x2 : Tok} {v_a_x3 : Vt} {r : Int × GPar}, r05_parser_typ_F r05_parser_field' r05_parser_typ' r05_parser_base' r05_parser_fields' a_x a_depth = some r → Ctr Tryd.prog 25 [ptrv b_a_x (Fld.id ((List GTok) × Int × (Str × Int × (TList Str) × (TList Int) × Vh) × Int × Int)), isv (a_depth)] [boxE b_a_x ((a_x.l, a_x.at_, (a_x.m.name, a_x.m.tagging, (TList.mk t_a_x1 a_x.m.names), (TList.mk t_a_x2 a_x.m.types), (Vh.mk v_a_x3 a_x.m.nodes.length)), a_x.e, a_x.p) : ((List GTok) × Int × (Str × Int × (TList Str) × (TList Int) × Vh) × Int × Int)), tokE t_a_x1, tokE t_a_x2, vecE v_a_x3 (a_x.m.nodes : List GNode)] (fun R H => ∃ u1 : Tok, ∃ u2 : Tok, ∃ u3 : Vt, R = oneOf [isv (r.1)] ∧ H = [boxE b_a_x ((r.2.l, r.2.at_, (r.2.m.name, r.2.m.tagging, (TList.mk u1 r.2.m.names), (TList.mk u2 r.2.m.types), (Vh.mk u3 r.2.m.nodes.length)), r.2.e, r.2.p)), tokE u1, tokE u2, vecE u3 (r.2.m.nodes)]) := by
  intro a_x a_depth b_a_x t_a_x1 t_a_x2 v_a_x3 r h
  unfold r05_parser_typ_F at h
  refine spec_intro Tryd.func25 rfl (by decide +kernel) (by rfl) fun w0 S0 hT => ?_
  refine w_seq ?_
  refine w_region ?_
  refine op_cons rfl (OpV.t (v_assign rfl) ?_)
  refine rl_nil ?_
  refine fin_nxt ?_
  refine w_seq ?_
  refine w_seq ?_
  refine w_region ?_
  refine op_cons rfl (OpV.t (v_move rfl) ?_)
  refine op_cons rfl (OpV.t (v_nilCheck rfl) ?_)
  refine op_cons rfl (OpV.t (v_fa rfl pt49_0_3 fd49_3) ?_)
  refine op_cons rfl (t_loadC (R := isv (a_x.e)) ty27 rfl .here (fun _ _ h => h) ?_)
  refine op_cons rfl (OpV.t (v_neq rfl rfl) ?_)
  refine rl_nil ?_
  refine fin_nxt ?_
  refine w_condM h rfl (fun _ h => ?_) (fun _ h => ?_)
  · skip
    refine w_seq ?_
    refine w_region ?_
    refine op_cons rfl (OpV.t (v_assign rfl) ?_)
    refine rl_nil ?_
    refine fin_nxt ?_
    refine w_ret ?_
    refine ret_nxt ?_
    refine ret_post (.tmp rfl .nil) (.cons .here (.cons .here (.cons .here (.cons .here .nil)))) ?_
    obtain rfl := Option.some.inj h
    exact ⟨t_a_x1, t_a_x2, v_a_x3, rfl, rfl⟩
  · skip
    refine w_skip ?_
    refine fin_nxt ?_
    refine w_seq ?_
    refine w_seq ?_
    refine w_region ?_
    refine op_cons rfl (OpV.t (v_move rfl) ?_)
    refine cal_inv h fun y4 hy4 h => ?_
    refine op_cons rfl (t_call (r05_parser_now_w hy4) hT (.same rfl .nil) (.cons .here (.cons .here (.cons .here (.cons .here .nil)))) (fun R H' hR => ?_))
    obtain ⟨t5, t6, v7, rfl, rfl⟩ := hR
    refine cal_inv h fun y8 hy8 h => ?_
    refine op_cons rfl (t_call (r05_begins_w hy8) hT (.same rfl .nil) .nil (fun R H' hR => ?_))
    obtain ⟨rfl, rfl⟩ := hR
    refine op_cons rfl (OpV.t (v_not rfl) ?_)
    refine rl_nil ?_
    refine fin_nxt ?_
    refine w_condM h rfl (fun _ h => ?_) (fun _ h => ?_)
    · skip
      refine w_seq ?_
      refine w_region ?_
      refine op_cons rfl (OpV.t (v_move rfl) ?_)
      refine op_cons rfl (OpV.t (v_move rfl) ?_)
      refine cal_inv h fun y9 hy9 h => ?_
      refine op_cons rfl (t_call (r05_parser_now_w hy9) hT (.same rfl .nil) (.cons .here (.cons .here (.cons .here (.cons .here .nil)))) (fun R H' hR => ?_))
      obtain ⟨t10, t11, v12, rfl, rfl⟩ := hR
      refine cal_inv h fun y13 hy13 h => ?_
      refine op_cons rfl (t_call (r05_parser_fail_w hy13) hT (.same rfl (.same rfl (.same rfl .nil))) (.cons .here (.cons .here (.cons .here (.cons .here .nil)))) (fun R H' hR => ?_))
      obtain ⟨t14, t15, v16, rfl, rfl⟩ := hR
      refine rl_nil ?_
      refine fin_nxt ?_
      refine w_seq ?_
      refine w_region ?_
      refine op_cons rfl (OpV.t (v_assign rfl) ?_)
      refine rl_nil ?_
      refine fin_nxt ?_
      refine w_ret ?_
      refine ret_nxt ?_
      refine ret_post (.tmp rfl .nil) (.cons .here (.cons .here (.cons .here (.cons .here .nil)))) ?_
      obtain rfl := Option.some.inj h
      exact ⟨t14, t15, v16, rfl, rfl⟩
    · skip
      refine w_skip ?_
      refine fin_nxt ?_
      refine w_seq ?_
      refine w_seq ?_
      refine w_region ?_
      refine op_cons rfl (OpV.t (v_move rfl) ?_)
      refine op_cons rfl (OpV.t (v_gtr rfl rfl) ?_)
      refine op_cons rfl (OpV.t (v_move rfl) ?_)
      refine rl_j (ι := Bool) (γ := Unit) (fun q17 g17 => [(32, isv (q17))]) (fun q17 g17 => []) .nil h 8 rfl (fun q17 g17 h => ?_) (fun J18 h hJ18 => ?_)
      · skip
        refine rl_nil ?_
        refine fin_nxt ?_
        refine w_condM h rfl (fun _ h => ?_) (fun _ h => ?_)
        · skip
          refine w_seq ?_
          refine w_region ?_
          refine op_cons rfl (OpV.t (v_move rfl) ?_)
          refine op_cons rfl (OpV.t (v_move rfl) ?_)
          refine cal_inv h fun y20 hy20 h => ?_
          refine op_cons rfl (t_call (r05_parser_now_w hy20) hT (.same rfl .nil) (.cons .here (.cons .here (.cons .here (.cons .here .nil)))) (fun R H' hR => ?_))
          obtain ⟨t21, t22, v23, rfl, rfl⟩ := hR
          refine cal_inv h fun y24 hy24 h => ?_
          refine op_cons rfl (t_call (r05_parser_fail_w hy24) hT (.same rfl (.same rfl (.same rfl .nil))) (.cons .here (.cons .here (.cons .here (.cons .here .nil)))) (fun R H' hR => ?_))
          obtain ⟨t25, t26, v27, rfl, rfl⟩ := hR
          refine rl_nil ?_
          refine fin_nxt ?_
          refine w_seq ?_
          refine w_region ?_
          refine op_cons rfl (OpV.t (v_assign rfl) ?_)
          refine rl_nil ?_
          refine fin_nxt ?_
          refine w_ret ?_
          refine ret_nxt ?_
          refine ret_post (.tmp rfl .nil) (.cons .here (.cons .here (.cons .here (.cons .here .nil)))) ?_
          obtain rfl := Option.some.inj h
          exact ⟨t25, t26, v27, rfl, rfl⟩
        · skip
          refine w_skip ?_
          refine fin_nxt ?_
          refine w_seq ?_
          refine w_region ?_
          refine op_cons rfl (OpV.t (v_move rfl) ?_)
          refine op_cons rfl (OpV.t (v_nilCheck rfl) ?_)
          refine op_cons rfl (OpV.t (v_fa rfl pt49_0_2 fd49_2) ?_)
          refine op_cons rfl (OpV.t (v_fa rfl pt26_0_4 fd26_4) ?_)
          refine op_cons rfl (t_loadC (R := vecv v7 (y4.2.m.nodes.length)) ty24 rfl .here isvV1 ?_)
          refine op_cons rfl (OpV.t (v_vlen sl24 rfl) ?_)
          refine op_cons rfl (OpV.t (v_assign rfl) ?_)
          refine rl_nil ?_
          refine fin_nxt ?_
          refine w_seq ?_
          refine w_region ?_
          refine op_cons rfl (OpV.t (v_move rfl) ?_)
          refine op_cons rfl (OpV.t (v_move rfl) ?_)
          refine op_cons rfl (OpV.t (v_nilCheck rfl) ?_)
          refine op_cons rfl (OpV.t (v_fa rfl pt49_0_2 fd49_2) ?_)
          refine op_cons rfl (OpV.t (v_fa rfl pt26_0_4 fd26_4) ?_)
          refine op_cons rfl (t_loadC (R := vecv v7 (y4.2.m.nodes.length)) ty24 rfl .here isvV1 ?_)
          refine op_cons rfl (OpV.t (v_build (z := (GNode.mk (0 : Int) (Str.mk []) (GMark.mk false (0 : Int) (0 : Int)) (GCon.mk false false false false (0 : Int) (0 : Int)) ([] : (List GItem)) ([] : (List GFld)) (0 : Int) false (0 : Int))) rfl bu83 ze83 .nil) ?_)
          refine op_cons rfl (t_buildSlice (l := ([(GNode.mk (0 : Int) (Str.mk []) (GMark.mk false (0 : Int) (0 : Int)) (GCon.mk false false false false (0 : Int) (0 : Int)) ([] : (List GItem)) ([] : (List GFld)) (0 : Int) false (0 : Int))] : (List GNode))) el24 (.cons rfl (fun _ _ h => h) .nil) rfl rfl ?_)
          refine asr_inv h fun q30 h => ?_
          refine op_cons rfl (t_vappF (m := ([(GNode.mk (0 : Int) (Str.mk []) (GMark.mk false (0 : Int) (0 : Int)) (GCon.mk false false false false (0 : Int) (0 : Int)) ([] : (List GItem)) ([] : (List GFld)) (0 : Int) false (0 : Int))] : (List GNode))) ap24_24 rfl rfl appv_isv (.there (.there (.there .here))) (by first | rfl | simp) q30 fun v29 => ?_)
          refine op_cons rfl (OpV.t (v_nilCheck rfl) ?_)
          refine op_cons rfl (OpV.t (v_fa rfl pt49_0_2 fd49_2) ?_)
          refine op_cons rfl (OpV.t (v_fa rfl pt26_0_4 fd26_4) ?_)
          refine op_cons rfl (t_storeC (y' := ((y4.2.l, y4.2.at_, (y4.2.m.name, y4.2.m.tagging, (TList.mk t5 y4.2.m.names), (TList.mk t6 y4.2.m.types), (Vh.mk v29 (y4.2.m.nodes ++ ([(GNode.mk (0 : Int) (Str.mk []) (GMark.mk false (0 : Int) (0 : Int)) (GCon.mk false false false false (0 : Int) (0 : Int)) ([] : (List GItem)) ([] : (List GFld)) (0 : Int) false (0 : Int))] : (List GNode))).length)), y4.2.e, y4.2.p) : ((List GTok) × Int × (Str × Int × (TList Str) × (TList Int) × Vh) × Int × Int))) ty24 rfl rfl isvV2 (.there .here) rfl ?_)
          refine rl_nil ?_
          refine fin_nxt ?_
          refine w_seq ?_
          refine w_region ?_
          refine op_cons rfl (OpV.t (v_build (z := (((0 : Int), (Str.mk []), (GMark.mk false (0 : Int) (0 : Int)), (GCon.mk false false false false (0 : Int) (0 : Int)), (TList.mk none ([] : (List GItem))), (TList.mk none ([] : (List GFld))), (0 : Int), false, (0 : Int)) : (Int × Str × GMark × GCon × (TList GItem) × (TList GFld) × Int × Bool × Int))) rfl bu83 zt83_1 .nil) ?_)
          refine op_cons rfl (t_alloc _ zt83_1 fun b31 => ?_)
          refine rl_upd (upd_tok) ?_
          refine rl_upd (upd_tok) ?_
          refine rl_upd (upd_tok) ?_
          refine rl_upd (upd_tok) ?_
          refine op_cons rfl (t_storeC (y' := (((0 : Int), (Str.mk []), (GMark.mk false (0 : Int) (0 : Int)), (GCon.mk false false false false (0 : Int) (0 : Int)), (TList.mk none ([] : (List GItem))), (TList.mk none ([] : (List GFld))), (0 : Int), false, (0 : Int)) : (Int × Str × GMark × GCon × (TList GItem) × (TList GFld) × Int × Bool × Int))) ty83 rfl rfl (fun _ _ h => h) (.there (.there (.there (.there .here)))) rfl ?_)
          refine rl_nil ?_
          refine fin_nxt ?_
          refine w_seq ?_
          refine w_seq ?_
          refine w_region ?_
          refine op_cons rfl (OpV.t (v_move rfl) ?_)
          refine cal_inv h fun y36 hy36 h => ?_
          refine op_cons rfl (t_call (r05_parser_is_w hy36) hT (.same rfl (.same rfl .nil)) (.cons (.there (.there (.there (.there (.there .here))))) (.cons (.there (.there (.there (.there (.there (.there .here)))))) (.cons (.there (.there (.there (.there (.there (.there .here)))))) (.cons (.there (.there (.there (.there (.there .here))))) .nil)))) (fun R H' hR => ?_))
          obtain ⟨t37, t38, v39, rfl, rfl⟩ := hR
          refine rl_nil ?_
          refine fin_nxt ?_
          refine w_J (ι := GPar × GNode) (γ := Tok × Tok × Vt × Tok × Tok) (fun q40 g40 => []) (fun q40 g40 => [boxE b_a_x ((q40.1.l, q40.1.at_, (q40.1.m.name, q40.1.m.tagging, (TList.mk g40.1 q40.1.m.names), (TList.mk g40.2.1 q40.1.m.types), (Vh.mk g40.2.2.1 q40.1.m.nodes.length)), q40.1.e, q40.1.p) : ((List GTok) × Int × (Str × Int × (TList Str) × (TList Int) × Vh) × Int × Int)), tokE g40.1, tokE g40.2.1, vecE g40.2.2.1 (q40.1.m.nodes : List GNode), boxE b31 ((q40.2.kind, q40.2.name, q40.2.mark, q40.2.con, (TList.mk g40.2.2.2.1 q40.2.items), (TList.mk g40.2.2.2.2 q40.2.fields), q40.2.root, q40.2.more, q40.2.of) : (Int × Str × GMark × GCon × (TList GItem) × (TList GFld) × Int × Bool × Int)), tokE g40.2.2.2.1, tokE g40.2.2.2.2]) (.cons .here (.cons (.there (.there (.there .here))) (.cons .here (.cons .here (.cons .here (.cons .here (.cons .here .nil))))))) h (fun q40 g40 h => ?_) (fun J41 h hJ41 => ?_)
          · skip
            refine w_seq ?_
            refine w_region ?_
            refine op_cons rfl (OpV.t (v_move rfl) ?_)
            refine op_cons rfl (OpV.t (v_move rfl) ?_)
            refine cal_inv h fun y75 hy75 h => ?_
            refine op_cons rfl (t_call (h_r05_parser_base hy75) hT (.same rfl (.same rfl (.same rfl .nil))) (.cons .here (.cons .here (.cons .here (.cons .here (.cons .here (.cons .here (.cons .here .nil))))))) (fun R H' hR => ?_))
            obtain ⟨t76, t77, v78, t79, t80, rfl, rfl⟩ := hR
            refine rl_nil ?_
            refine fin_nxt ?_
            refine w_seq ?_
            refine w_seq ?_
            refine w_region ?_
            refine op_cons rfl (OpV.t (v_move rfl) ?_)
            refine op_cons rfl (OpV.t (v_nilCheck rfl) ?_)
            refine op_cons rfl (OpV.t (v_fa rfl pt49_0_3 fd49_3) ?_)
            refine op_cons rfl (t_loadC (R := isv (y75.1.e)) ty27 rfl .here (fun _ _ h => h) ?_)
            refine op_cons rfl (OpV.t (v_neq rfl rfl) ?_)
            refine rl_nil ?_
            refine fin_nxt ?_
            refine w_condM h rfl (fun _ h => ?_) (fun _ h => ?_)
            · skip
              refine w_seq ?_
              refine w_region ?_
              refine op_cons rfl (OpV.t (v_assign rfl) ?_)
              refine rl_nil ?_
              refine fin_nxt ?_
              refine w_ret ?_
              refine ret_nxt ?_
              refine ret_post (.tmp rfl .nil) (.cons .here (.cons .here (.cons .here (.cons .here .nil)))) ?_
              obtain rfl := Option.some.inj h
              exact ⟨t76, t77, v78, rfl, rfl⟩
            · skip
              refine w_skip ?_
              refine fin_nxt ?_
              refine w_seq ?_
              refine w_pinN 6 (.there (.there (.there (.there .here)))) rfl (fun o81 hn82 => ?_)
              refine w_pinN 0 .here rfl (fun o83 hn84 => ?_)
              refine w_regionD (.v 0 (.v 1 (.v 2 (.v 3 (.v 4 (.v 5 (.v 6 (.v 7 (.t 8 .nil))))))))) moOrd (by kernel_rfl) ?_
              refine rd_v rfl (v_move rfl) ?_
              refine rd_v rfl (v_nilCheckP rfl) ?_
              refine rd_v rfl (v_fp rfl pt49_0_2 fd49_2) ?_
              refine rd_v rfl (v_fp rfl pt26_0_4 fd26_4) ?_
              refine rd_v rfl (v_lpC (R := vecv v78 (y75.1.m.nodes.length)) ty24 rfl (by simp) isvV1) ?_
              refine rd_v rfl (v_move rfl) ?_
              refine rd_v rfl (v_lpC (R := isv (((y75.2.kind, y75.2.name, y75.2.mark, y75.2.con, (TList.mk t79 y75.2.items), (TList.mk t80 y75.2.fields), y75.2.root, y75.2.more, y75.2.of)) : ((Int × Str × GMark × GCon × (TList GItem) × (TList GFld) × Int × Bool × Int)))) ty83 rfl (by simp) (fun _ _ h => h)) ?_
              refine rd_upd (upd_slot (R' := isv (y75.2)) 105 rfl (Cv.isv rfl fun S => (fun cs h => GNode.cv (x := y75.2) cs (((Cv.pair Cv.id (Cv.pair Cv.id (Cv.pair Cv.id (Cv.pair Cv.id (Cv.pair Cv.tl (Cv.pair Cv.tl (Cv.pair Cv.id (Cv.pair Cv.id Cv.id)))))))) : Cv S ((y75.2.kind, y75.2.name, y75.2.mark, y75.2.con, (TList.mk t79 y75.2.items), (TList.mk t80 y75.2.fields), y75.2.root, y75.2.more, y75.2.of) : (Int × Str × GMark × GCon × (TList GItem) × (TList GFld) × Int × Bool × Int)) (GNode.to y75.2)) cs h)))) ?_
              refine asd_inv h fun q85 h => ?_
              refine rd_v rfl (v_vidx (α := GNode) sl24 rfl rfl q85.1 q85.2) ?_
              refine cal_inv h fun y86 hy86 h => ?_
              refine rd_t rfl rfl (t_vstore ty83 rfl rfl (.there (.there .here)) hy86 ?_)
              refine rd_nil ?_
              refine fin_unpinN 0 hn84 rfl ?_
              refine fin_upd (upd_box (y := ((y75.1.l, y75.1.at_, (y75.1.m.name, y75.1.m.tagging, (TList.mk t76 y75.1.m.names), (TList.mk t77 y75.1.m.types), (Vh.mk v78 (y75.1.m.nodes.set (((y4.2.m.nodes.length : Nat) : Int).toNat) y75.2).length)), y75.1.e, y75.1.p) : ((List GTok) × Int × (Str × Int × (TList Str) × (TList Int) × Vh) × Int × Int))) .here (fun S => (Cv.pair Cv.id (Cv.pair Cv.id (Cv.pair (Cv.pair Cv.id (Cv.pair Cv.id (Cv.pair Cv.id (Cv.pair Cv.id (Cv.vhe (by first | rfl | simp)))))) (Cv.pair Cv.id Cv.id)))))) ?_
              refine fin_unpinN 6 hn82 rfl ?_
              refine fin_nxt ?_
              refine w_seq ?_
              refine w_region ?_
              refine op_cons rfl (OpV.t (v_move rfl) ?_)
              refine op_cons rfl (OpV.t (v_assign rfl) ?_)
              refine rl_nil ?_
              refine fin_nxt ?_
              refine w_ret ?_
              refine ret_post (.tmp rfl .nil) (.cons (.there .here) (.cons (.there (.there .here)) (.cons (.there (.there .here)) (.cons (.there .here) .nil)))) ?_
              obtain rfl := Option.some.inj h
              exact ⟨t76, t77, v78, rfl, rfl⟩
          · skip
            refine w_condM h rfl (fun _ h => ?_) (fun _ h => ?_)
            · skip
              refine w_seq ?_
              refine w_region ?_
              refine op_cons rfl (OpV.t (v_move rfl) ?_)
              refine cal_inv h fun y42 hy42 h => ?_
              refine op_cons rfl (t_call (r05_parser_now_w hy42) hT (.same rfl .nil) (.cons .here (.cons .here (.cons .here (.cons .here .nil)))) (fun R H' hR => ?_))
              obtain ⟨t43, t44, v45, rfl, rfl⟩ := hR
              refine op_cons rfl (t_alloc _ ze53 fun b46 => ?_)
              refine op_cons rfl (t_storeC (y' := (y42.1 : GTok)) ty53 rfl rfl (fun _ _ h => h) .here rfl ?_)
              refine rl_upd (upd_imm 7 .here rfl) ?_
              refine rl_nil ?_
              refine fin_nxt ?_
              refine w_seq ?_
              refine w_region ?_
              refine op_cons rfl (OpV.t (v_move rfl) ?_)
              refine cal_inv h fun y47 hy47 h => ?_
              refine op_cons rfl (t_call (r05_parser_number_w hy47) hT (.same rfl .nil) (.cons .here (.cons .here (.cons .here (.cons .here .nil)))) (fun R H' hR => ?_))
              obtain ⟨t48, t49, v50, rfl, rfl⟩ := hR
              refine op_cons rfl (OpV.t (v_assign rfl) ?_)
              refine rl_nil ?_
              refine fin_nxt ?_
              refine w_seq ?_
              refine w_seq ?_
              refine w_region ?_
              refine op_cons rfl (OpV.t (v_move rfl) ?_)
              refine op_cons rfl (OpV.t (v_nilCheck rfl) ?_)
              refine op_cons rfl (OpV.t (v_fa rfl pt49_0_3 fd49_3) ?_)
              refine op_cons rfl (t_loadC (R := isv (y47.2.e)) ty27 rfl .here (fun _ _ h => h) ?_)
              refine op_cons rfl (OpV.t (v_eql rfl rfl) ?_)
              refine op_cons rfl (OpV.t (v_move rfl) ?_)
              refine rl_j (ι := Bool) (γ := Unit) (fun q51 g51 => [(74, isv (q51))]) (fun q51 g51 => []) .nil h 7 rfl (fun q51 g51 h => ?_) (fun J52 h hJ52 => ?_)
              · skip
                refine rl_nil ?_
                refine fin_nxt ?_
                refine w_J (ι := GPar) (γ := Tok × Tok × Vt) (fun q57 g57 => []) (fun q57 g57 => [boxE b_a_x ((q57.l, q57.at_, (q57.m.name, q57.m.tagging, (TList.mk g57.1 q57.m.names), (TList.mk g57.2.1 q57.m.types), (Vh.mk g57.2.2 q57.m.nodes.length)), q57.e, q57.p) : ((List GTok) × Int × (Str × Int × (TList Str) × (TList Int) × Vh) × Int × Int)), tokE g57.1, tokE g57.2.1, vecE g57.2.2 (q57.m.nodes : List GNode)]) (.cons .here (.cons .here (.cons .here (.cons .here .nil)))) h (fun q57 g57 h => ?_) (fun J58 h hJ58 => ?_)
                · skip
                  refine w_seq ?_
                  refine w_region ?_
                  refine op_cons rfl (OpV.t (v_move rfl) ?_)
                  refine cal_inv h fun y63 hy63 h => ?_
                  refine op_cons rfl (t_call (r05_parser_must_w hy63) hT (.same rfl (.same rfl .nil)) (.cons .here (.cons .here (.cons .here (.cons .here .nil)))) (fun R H' hR => ?_))
                  obtain ⟨t64, t65, v66, rfl, rfl⟩ := hR
                  refine rl_nil ?_
                  refine fin_nxt ?_
                  refine w_seq ?_
                  refine w_region ?_
                  refine op_cons rfl (OpV.t (v_move rfl) ?_)
                  refine op_cons rfl (OpV.t (v_build (z := (GMark.mk true y47.1 (0 : Int))) rfl bu77 ze77 (.cons GMark.f0 fd77_0 rfl (fun _ _ h => h) (.cons GMark.f1 fd77_1 rfl (fun _ _ h => h) .nil))) ?_)
                  refine op_cons rfl (OpV.t (v_fa rfl pt83_0_2 fd83_2) ?_)
                  refine op_cons rfl (t_storeC (y' := (((0 : Int), (Str.mk []), (GMark.mk true y47.1 (0 : Int)), (GCon.mk false false false false (0 : Int) (0 : Int)), (TList.mk none ([] : (List GItem))), (TList.mk none ([] : (List GFld))), (0 : Int), false, (0 : Int)) : (Int × Str × GMark × GCon × (TList GItem) × (TList GFld) × Int × Bool × Int))) ty77 rfl rfl (fun _ _ h => h) (.there (.there (.there (.there .here)))) rfl ?_)
                  refine rl_nil ?_
                  refine fin_nxt ?_
                  refine w_seq ?_
                  refine w_region ?_
                  refine op_cons rfl (OpV.t (v_move rfl) ?_)
                  refine cal_inv h fun y67 hy67 h => ?_
                  refine op_cons rfl (t_call (r05_parser_is_w hy67) hT (.same rfl (.same rfl .nil)) (.cons (.there .here) (.cons (.there .here) (.cons (.there .here) (.cons (.there .here) .nil)))) (fun R H' hR => ?_))
                  obtain ⟨t68, t69, v70, rfl, rfl⟩ := hR
                  refine rl_nil ?_
                  refine fin_nxt ?_
                  refine w_condM h rfl (fun _ h => ?_) (fun _ h => ?_)
                  · skip
                    refine w_region ?_
                    refine op_cons rfl (OpV.t (v_fa rfl pt83_0_2 fd83_2) ?_)
                    refine op_cons rfl (OpV.t (v_fa rfl GMark.f2 fd77_2) ?_)
                    refine op_cons rfl (t_storeC (y' := (((0 : Int), (Str.mk []), (GMark.mk true y47.1 (1 : Int)), (GCon.mk false false false false (0 : Int) (0 : Int)), (TList.mk none ([] : (List GItem))), (TList.mk none ([] : (List GFld))), (0 : Int), false, (0 : Int)) : (Int × Str × GMark × GCon × (TList GItem) × (TList GFld) × Int × Bool × Int))) ty3 rfl rfl (fun _ _ h => h) (.there (.there (.there (.there .here)))) rfl ?_)
                    refine rl_nil ?_
                    exact hJ41 _ (t68, t69, v70, none, none) h _ (join_imp 23 rfl rfl mod_nil (.cons (.there .here) (.cons (.there .here) (.cons (.there .here) (.cons (.there .here) (.cons .here (.cons (.there .here) (.cons .here (.cons .here (.cons .here .nil))))))))))
                  · skip
                    refine w_seq ?_
                    refine w_region ?_
                    refine op_cons rfl (OpV.t (v_move rfl) ?_)
                    refine cal_inv h fun y71 hy71 h => ?_
                    refine op_cons rfl (t_call (r05_parser_is_w hy71) hT (.same rfl (.same rfl .nil)) (.cons .here (.cons .here (.cons .here (.cons .here .nil)))) (fun R H' hR => ?_))
                    obtain ⟨t72, t73, v74, rfl, rfl⟩ := hR
                    refine rl_nil ?_
                    refine fin_nxt ?_
                    refine w_condM h rfl (fun _ h => ?_) (fun _ h => ?_)
                    · skip
                      refine w_region ?_
                      refine op_cons rfl (OpV.t (v_fa rfl pt83_0_2 fd83_2) ?_)
                      refine op_cons rfl (OpV.t (v_fa rfl GMark.f2 fd77_2) ?_)
                      refine op_cons rfl (t_storeC (y' := (((0 : Int), (Str.mk []), (GMark.mk true y47.1 (2 : Int)), (GCon.mk false false false false (0 : Int) (0 : Int)), (TList.mk none ([] : (List GItem))), (TList.mk none ([] : (List GFld))), (0 : Int), false, (0 : Int)) : (Int × Str × GMark × GCon × (TList GItem) × (TList GFld) × Int × Bool × Int))) ty3 rfl rfl (fun _ _ h => h) (.there (.there (.there (.there .here)))) rfl ?_)
                      refine rl_nil ?_
                      exact hJ41 _ (t72, t73, v74, none, none) h _ (join_imp 25 rfl rfl mod_nil (.cons (.there .here) (.cons (.there .here) (.cons (.there .here) (.cons (.there .here) (.cons .here (.cons (.there .here) (.cons .here (.cons .here (.cons .here .nil))))))))))
                    · skip
                      refine w_skip ?_
                      exact hJ41 _ (t72, t73, v74, none, none) h _ (join_imp 23 rfl rfl mod_nil (.cons .here (.cons .here (.cons .here (.cons .here (.cons .here (.cons (.there .here) (.cons .here (.cons .here (.cons .here .nil))))))))))
                · skip
                  refine w_condM h rfl (fun _ h => ?_) (fun _ h => ?_)
                  · skip
                    refine w_region ?_
                    refine op_cons rfl (OpV.t (v_move rfl) ?_)
                    refine op_cons rfl (OpV.t (v_loadI ty53 rfl) ?_)
                    refine cal_inv h fun y59 hy59 h => ?_
                    refine op_cons rfl (t_call (r05_parser_fail_w hy59) hT (.same rfl (.same rfl (.same rfl .nil))) (.cons .here (.cons .here (.cons .here (.cons .here .nil)))) (fun R H' hR => ?_))
                    obtain ⟨t60, t61, v62, rfl, rfl⟩ := hR
                    refine rl_nil ?_
                    exact hJ58 _ (t60, t61, v62) h _ (join_imp 3 rfl rfl mod_nil (.cons .here (.cons .here (.cons .here (.cons .here (.cons .here (.cons .here (.cons .here (.cons .here (.cons .here .nil))))))))))
                  · skip
                    refine w_skip ?_
                    exact hJ58 _ (t48, t49, v50) h _ (join_imp 0 rfl rfl mod_nil (.cons .here (.cons .here (.cons .here (.cons .here (.cons .here (.cons .here (.cons .here (.cons .here (.cons .here .nil))))))))))
              · skip
                refine rl_condM (j := 67) h rfl (fun g53 h => ?_) (fun g53 h => ?_)
                · skip
                  refine op_take rfl rfl (dj := 67) rfl g53 (OpV.t (v_move rfl) ?_)
                  refine op_take rfl rfl (dj := 67) rfl g53 (OpV.t (v_lss rfl rfl) ?_)
                  refine op_take rfl rfl (dj := 67) rfl g53 (OpV.t (v_move rfl) ?_)
                  refine rl_j (ι := Bool) (γ := Unit) (fun q54 g54 => [(73, isv (q54))]) (fun q54 g54 => []) .nil h 3 rfl (fun q54 g54 h => ?_) (fun J55 h hJ55 => ?_)
                  · skip
                    refine op_cons rfl (OpV.t (v_pick_t rfl g53 rfl) ?_)
                    exact hJ52 _ () h _ (join_imp 5 rfl rfl (mod_cons (j := 74) rfl (fun _ _ h => h) mod_nil) (.cons .here (.cons .here (.cons .here (.cons .here (.cons .here (.cons .here (.cons .here (.cons .here (.cons .here .nil))))))))))
                  · skip
                    refine rl_condM (j := 70) h rfl (fun g56 h => ?_) (fun g56 h => ?_)
                    · skip
                      refine op_pass rfl (dj := 70) rfl g56 ?_
                      refine op_pass rfl (dj := 70) rfl g56 ?_
                      refine op_take rfl rfl (dj := 67) rfl g53 (OpV.t (v_pick_t rfl g56 rfl) ?_)
                      exact hJ55 _ () h _ (join_imp 3 rfl rfl (mod_cons (j := 73) rfl (fun _ _ h => h) mod_nil) (.cons .here (.cons .here (.cons .here (.cons .here (.cons .here (.cons .here (.cons .here (.cons .here (.cons .here .nil))))))))))
                    · skip
                      refine op_take rfl rfl (dj := 70) rfl g56 (OpV.t (v_move rfl) ?_)
                      refine op_take rfl rfl (dj := 70) rfl g56 (OpV.t (v_gtr rfl rfl) ?_)
                      refine op_take rfl rfl (dj := 67) rfl g53 (OpV.t (v_pick_f rfl g56 rfl) ?_)
                      exact hJ55 _ () h _ (join_imp 3 rfl rfl (mod_cons (j := 73) rfl (fun _ _ h => h) mod_nil) (.cons .here (.cons .here (.cons .here (.cons .here (.cons .here (.cons .here (.cons .here (.cons .here (.cons .here .nil))))))))))
                · skip
                  refine op_pass rfl (dj := 67) rfl g53 ?_
                  refine op_pass rfl (dj := 67) rfl g53 ?_
                  refine op_pass rfl (dj := 67) rfl g53 ?_
                  refine op_passU rfl (dj := 70) rfl ?_
                  refine op_passU rfl (dj := 70) rfl ?_
                  refine op_pass rfl (dj := 67) rfl g53 ?_
                  refine op_cons rfl (OpV.t (v_pick_f rfl g53 rfl) ?_)
                  exact hJ52 _ () h _ (join_imp 7 rfl rfl (mod_cons (j := 74) rfl (fun _ _ h => h) mod_nil) (.cons .here (.cons .here (.cons .here (.cons .here (.cons .here (.cons .here (.cons .here (.cons .here (.cons .here .nil))))))))))
            · skip
              refine w_skip ?_
              exact hJ41 _ (t37, t38, v39, none, none) h _ (join_imp 0 rfl rfl mod_nil (.cons .here (.cons .here (.cons .here (.cons .here (.cons .here (.cons (.there .here) (.cons .here (.cons .here (.cons .here .nil))))))))))
      · skip
        refine rl_condM (j := 24) h rfl (fun g19 h => ?_) (fun g19 h => ?_)
        · skip
          refine op_pass rfl (dj := 24) rfl g19 ?_
          refine op_pass rfl (dj := 24) rfl g19 ?_
          refine op_pass rfl (dj := 24) rfl g19 ?_
          refine op_pass rfl (dj := 24) rfl g19 ?_
          refine op_pass rfl (dj := 24) rfl g19 ?_
          refine op_pass rfl (dj := 24) rfl g19 ?_
          refine op_pass rfl (dj := 24) rfl g19 ?_
          refine op_cons rfl (OpV.t (v_pick_t rfl g19 rfl) ?_)
          exact hJ18 _ () h _ (join_imp 8 rfl rfl (mod_cons (j := 32) rfl (fun _ _ h => h) mod_nil) (.cons .here (.cons .here (.cons .here (.cons .here .nil)))))
        · skip
          refine op_take rfl rfl (dj := 24) rfl g19 (OpV.t (v_move rfl) ?_)
          refine op_take rfl rfl (dj := 24) rfl g19 (OpV.t (v_nilCheck rfl) ?_)
          refine op_take rfl rfl (dj := 24) rfl g19 (OpV.t (v_fa rfl pt49_0_2 fd49_2) ?_)
          refine op_take rfl rfl (dj := 24) rfl g19 (OpV.t (v_fa rfl pt26_0_4 fd26_4) ?_)
          refine op_take rfl rfl (dj := 24) rfl g19 (t_loadC (R := vecv v7 (y4.2.m.nodes.length)) ty24 rfl .here isvV1 ?_)
          refine op_take rfl rfl (dj := 24) rfl g19 (OpV.t (v_vlen sl24 rfl) ?_)
          refine op_take rfl rfl (dj := 24) rfl g19 (OpV.t (v_geq rfl rfl) ?_)
          refine op_cons rfl (OpV.t (v_pick_f rfl g19 rfl) ?_)
          exact hJ18 _ () h _ (join_imp 8 rfl rfl (mod_cons (j := 32) rfl (fun _ _ h => h) mod_nil) (.cons .here (.cons .here (.cons .here (.cons .here .nil)))))

theorem r05_parser_base_w0 {r05_parser_field' : GPar → GNode → Int → Int → Option (GPar × GNode)} {r05_parser_typ' : GPar → Int → Option (Int × GPar)} {r05_parser_base' : GPar → GNode → Int → Option (GPar × GNode)} {r05_parser_fields' : GPar → GNode → Int → Option (GPar × GNode)} (h_r05_parser_field : r05_parser_field_C r05_parser_field') (h_r05_parser_typ : r05_parser_typ_C r05_parser_typ') (h_r05_parser_base : r05_parser_base_C r05_parser_base') (h_r05_parser_fields : r05_parser_fields_C r05_parser_fields') : ∀ {a_x : GPar} {a_n_ : GNode} {a_depth : Int} {b_a_x : Nat} {t_a_x1 : Tok} {t_a_x2 : Tok} {v_a_x3 : Vt} {b_a_n_ : Nat} {t_a_n_4 : Tok} {t_a_n_5 : Tok} {r : GPar × GNode}, r05_parser_base_F r05_parser_field' r05_parser_typ' r05_parser_base' r05_parser_fields' a_x a_n_ a_depth = some r → Ctr Tryd.prog 43 [ptrv b_a_x (Fld.id ((List GTok) × Int × (Str × Int × (TList Str) × (TList Int) × Vh) × Int × Int)), ptrv b_a_n_ (Fld.id (Int × Str × GMark × GCon × (TList GItem) × (TList GFld) × Int × Bool × Int)), isv (a_depth)] [boxE b_a_x ((a_x.l, a_x.at_, (a_x.m.name, a_x.m.tagging, (TList.mk t_a_x1 a_x.m.names), (TList.mk t_a_x2 a_x.m.types), (Vh.mk v_a_x3 a_x.m.nodes.length)), a_x.e, a_x.p) : ((List GTok) × Int × (Str × Int × (TList Str) × (TList Int) × Vh) × Int × Int)), tokE t_a_x1, tokE t_a_x2, vecE v_a_x3 (a_x.m.nodes : List GNode), boxE b_a_n_ ((a_n_.kind, a_n_.name, a_n_.mark, a_n_.con, (TList.mk t_a_n_4 a_n_.items), (TList.mk t_a_n_5 a_n_.fields), a_n_.root, a_n_.more, a_n_.of) : (Int × Str × GMark × GCon × (TList GItem) × (TList GFld) × Int × Bool × Int)), tokE t_a_n_4, tokE t_a_n_5] (fun R H => ∃ u1 : Tok, ∃ u2 : Tok, ∃ u3 : Vt, ∃ u4 : Tok, ∃ u5 : Tok, R = oneOf [] ∧ H = [boxE b_a_x ((r.1.l, r.1.at_, (r.1.m.name, r.1.m.tagging, (TList.mk u1 r.1.m.names), (TList.mk u2 r.1.m.types), (Vh.mk u3 r.1.m.nodes.length)), r.1.e, r.1.p)), tokE u1, tokE u2, vecE u3 (r.1.m.nodes), boxE b_a_n_ ((r.2.kind, r.2.name, r.2.mark, r.2.con, (TList.mk u4 r.2.items), (TList.mk u5 r.2.fields), r.2.root, r.2.more, r.2.of)), tokE u4, tokE u5]) := by
  intro a_x a_n_ a_depth b_a_x t_a_x1 t_a_x2 v_a_x3 b_a_n_ t_a_n_4 t_a_n_5 r h
  unfold r05_parser_base_F at h
  refine spec_intro Tryd.func43 rfl (by decide +kernel) (by rfl) fun w0 S0 hT => ?_
  refine w_seq ?_
  refine w_region ?_
  refine op_cons rfl (OpV.t (v_move rfl) ?_)
  refine cal_inv h fun y6 hy6 h => ?_
  refine op_cons rfl (t_call (r05_parser_now_w hy6) hT (.same rfl .nil) (.cons .here (.cons .here (.cons .here (.cons .here .nil)))) (fun R H' hR => ?_))
  obtain ⟨t7, t8, v9, rfl, rfl⟩ := hR
  refine op_cons rfl (t_alloc _ ze53 fun b10 => ?_)
  refine op_cons rfl (t_storeC (y' := (y6.1 : GTok)) ty53 rfl rfl (fun _ _ h => h) .here rfl ?_)
  refine rl_upd (upd_imm 6 .here rfl) ?_
  refine rl_nil ?_
  refine fin_nxt ?_
  refine w_block ?_
  refine w_seq ?_
  refine w_region ?_
  refine op_cons rfl (OpV.t (v_move rfl) ?_)
  refine op_cons rfl (OpV.t (v_nilCheck rfl) ?_)
  refine op_cons rfl (OpV.t (v_fa rfl pt49_0_3 fd49_3) ?_)
  refine op_cons rfl (t_loadC (R := isv (y6.2.e)) ty27 rfl .here (fun _ _ h => h) ?_)
  refine op_cons rfl (OpV.t (v_neq rfl rfl) ?_)
  refine op_cons rfl (OpV.t (v_assign rfl) ?_)
  refine rl_nil ?_
  refine fin_nxt ?_
  refine w_condM h rfl (fun _ h => ?_) (fun _ h => ?_)
  · skip
    refine w_skip ?_
    refine fin_block ?_
    refine fin_post .nil (.cons .here (.cons .here (.cons .here (.cons .here (.cons .here (.cons .here (.cons .here .nil))))))) ?_
    obtain rfl := Option.some.inj h
    exact ⟨t7, t8, v9, t_a_n_4, t_a_n_5, rfl, rfl⟩
  · skip
    refine w_seq ?_
    refine w_region ?_
    refine op_cons rfl (OpV.t (v_move rfl) ?_)
    refine cal_inv h fun y11 hy11 h => ?_
    refine op_cons rfl (t_call (r05_parser_is_w hy11) hT (.same rfl (.same rfl .nil)) (.cons .here (.cons .here (.cons .here (.cons .here .nil)))) (fun R H' hR => ?_))
    obtain ⟨t12, t13, v14, rfl, rfl⟩ := hR
    refine op_cons rfl (OpV.t (v_assign rfl) ?_)
    refine rl_nil ?_
    refine fin_nxt ?_
    refine w_condM h rfl (fun _ h => ?_) (fun _ h => ?_)
    · skip
      refine w_region ?_
      refine op_cons rfl (OpV.t (v_move rfl) ?_)
      refine op_cons rfl (OpV.t (v_nilCheck rfl) ?_)
      refine op_cons rfl (OpV.t (v_fa rfl pt83_0_0 fd83_0) ?_)
      refine op_cons rfl (t_storeC (y' := (((1 : Int), a_n_.name, a_n_.mark, a_n_.con, (TList.mk t_a_n_4 a_n_.items), (TList.mk t_a_n_5 a_n_.fields), a_n_.root, a_n_.more, a_n_.of) : (Int × Str × GMark × GCon × (TList GItem) × (TList GFld) × Int × Bool × Int))) ty3 rfl rfl (fun _ _ h => h) (.there (.there (.there (.there .here)))) rfl ?_)
      refine rl_nil ?_
      refine fin_block ?_
      refine fin_post .nil (.cons (.there .here) (.cons (.there .here) (.cons (.there .here) (.cons (.there .here) (.cons .here (.cons .here (.cons .here .nil))))))) ?_
      obtain rfl := Option.some.inj h
      exact ⟨t12, t13, v14, t_a_n_4, t_a_n_5, rfl, rfl⟩
    · skip
      refine w_seq ?_
      refine w_region ?_
      refine op_cons rfl (OpV.t (v_move rfl) ?_)
      refine cal_inv h fun y15 hy15 h => ?_
      refine op_cons rfl (t_call (r05_parser_is_w hy15) hT (.same rfl (.same rfl .nil)) (.cons .here (.cons .here (.cons .here (.cons .here .nil)))) (fun R H' hR => ?_))
      obtain ⟨t16, t17, v18, rfl, rfl⟩ := hR
      refine op_cons rfl (OpV.t (v_assign rfl) ?_)
      refine rl_nil ?_
      refine fin_nxt ?_
      refine w_condM h rfl (fun _ h => ?_) (fun _ h => ?_)
      · skip
        refine w_region ?_
        refine op_cons rfl (OpV.t (v_move rfl) ?_)
        refine op_cons rfl (OpV.t (v_nilCheck rfl) ?_)
        refine op_cons rfl (OpV.t (v_fa rfl pt83_0_0 fd83_0) ?_)
        refine op_cons rfl (t_storeC (y' := (((4 : Int), a_n_.name, a_n_.mark, a_n_.con, (TList.mk t_a_n_4 a_n_.items), (TList.mk t_a_n_5 a_n_.fields), a_n_.root, a_n_.more, a_n_.of) : (Int × Str × GMark × GCon × (TList GItem) × (TList GFld) × Int × Bool × Int))) ty3 rfl rfl (fun _ _ h => h) (.there (.there (.there (.there .here)))) rfl ?_)
        refine rl_nil ?_
        refine fin_block ?_
        refine fin_post .nil (.cons (.there .here) (.cons (.there .here) (.cons (.there .here) (.cons (.there .here) (.cons .here (.cons .here (.cons .here .nil))))))) ?_
        obtain rfl := Option.some.inj h
        exact ⟨t16, t17, v18, t_a_n_4, t_a_n_5, rfl, rfl⟩
      · skip
        refine w_seq ?_
        refine w_region ?_
        refine op_cons rfl (OpV.t (v_move rfl) ?_)
        refine cal_inv h fun y19 hy19 h => ?_
        refine op_cons rfl (t_call (r05_parser_is_w hy19) hT (.same rfl (.same rfl .nil)) (.cons .here (.cons .here (.cons .here (.cons .here .nil)))) (fun R H' hR => ?_))
        obtain ⟨t20, t21, v22, rfl, rfl⟩ := hR
        refine op_cons rfl (OpV.t (v_assign rfl) ?_)
        refine rl_nil ?_
        refine fin_nxt ?_
        refine w_condM h rfl (fun _ h => ?_) (fun _ h => ?_)
        · skip
          refine w_seq ?_
          refine w_region ?_
          refine op_cons rfl (OpV.t (v_move rfl) ?_)
          refine op_cons rfl (OpV.t (v_nilCheck rfl) ?_)
          refine op_cons rfl (OpV.t (v_fa rfl pt83_0_0 fd83_0) ?_)
          refine op_cons rfl (t_storeC (y' := (((6 : Int), a_n_.name, a_n_.mark, a_n_.con, (TList.mk t_a_n_4 a_n_.items), (TList.mk t_a_n_5 a_n_.fields), a_n_.root, a_n_.more, a_n_.of) : (Int × Str × GMark × GCon × (TList GItem) × (TList GFld) × Int × Bool × Int))) ty3 rfl rfl (fun _ _ h => h) (.there (.there (.there (.there .here)))) rfl ?_)
          refine rl_nil ?_
          refine fin_nxt ?_
          refine w_region ?_
          refine op_cons rfl (OpV.t (v_move rfl) ?_)
          refine op_cons rfl (OpV.t (v_move rfl) ?_)
          refine cal_inv h fun y23 hy23 h => ?_
          refine op_cons rfl (t_call (r05_parser_size_w hy23) hT (.same rfl .nil) (.cons (.there .here) (.cons (.there .here) (.cons (.there .here) (.cons (.there .here) .nil)))) (fun R H' hR => ?_))
          obtain ⟨t24, t25, v26, rfl, rfl⟩ := hR
          refine op_cons rfl (OpV.t (v_nilCheck rfl) ?_)
          refine op_cons rfl (OpV.t (v_fa rfl pt83_0_3 fd83_3) ?_)
          refine op_cons rfl (t_storeC (y' := (((6 : Int), a_n_.name, a_n_.mark, y23.1, (TList.mk t_a_n_4 a_n_.items), (TList.mk t_a_n_5 a_n_.fields), a_n_.root, a_n_.more, a_n_.of) : (Int × Str × GMark × GCon × (TList GItem) × (TList GFld) × Int × Bool × Int))) ty79 rfl rfl (fun _ _ h => h) (.there (.there (.there (.there .here)))) rfl ?_)
          refine rl_nil ?_
          refine fin_block ?_
          refine fin_post .nil (.cons (.there .here) (.cons (.there .here) (.cons (.there .here) (.cons (.there .here) (.cons .here (.cons .here (.cons .here .nil))))))) ?_
          obtain rfl := Option.some.inj h
          exact ⟨t24, t25, v26, t_a_n_4, t_a_n_5, rfl, rfl⟩
        · skip
          refine w_seq ?_
          refine w_region ?_
          refine op_cons rfl (OpV.t (v_move rfl) ?_)
          refine cal_inv h fun y27 hy27 h => ?_
          refine op_cons rfl (t_call (r05_parser_is_w hy27) hT (.same rfl (.same rfl .nil)) (.cons .here (.cons .here (.cons .here (.cons .here .nil)))) (fun R H' hR => ?_))
          obtain ⟨t28, t29, v30, rfl, rfl⟩ := hR
          refine op_cons rfl (OpV.t (v_assign rfl) ?_)
          refine rl_nil ?_
          refine fin_nxt ?_
          refine w_condM h rfl (fun _ h => ?_) (fun _ h => ?_)
          · skip
            refine w_seq ?_
            refine w_region ?_
            refine op_cons rfl (OpV.t (v_move rfl) ?_)
            refine op_cons rfl (OpV.t (v_nilCheck rfl) ?_)
            refine op_cons rfl (OpV.t (v_fa rfl pt83_0_0 fd83_0) ?_)
            refine op_cons rfl (t_storeC (y' := (((2 : Int), a_n_.name, a_n_.mark, a_n_.con, (TList.mk t_a_n_4 a_n_.items), (TList.mk t_a_n_5 a_n_.fields), a_n_.root, a_n_.more, a_n_.of) : (Int × Str × GMark × GCon × (TList GItem) × (TList GFld) × Int × Bool × Int))) ty3 rfl rfl (fun _ _ h => h) (.there (.there (.there (.there .here)))) rfl ?_)
            refine rl_nil ?_
            refine fin_nxt ?_
            refine w_seq ?_
            refine w_region ?_
            refine op_cons rfl (OpV.t (v_move rfl) ?_)
            refine cal_inv h fun y31 hy31 h => ?_
            refine op_cons rfl (t_call (r05_parser_is_w hy31) hT (.same rfl (.same rfl .nil)) (.cons (.there .here) (.cons (.there .here) (.cons (.there .here) (.cons (.there .here) .nil)))) (fun R H' hR => ?_))
            obtain ⟨t32, t33, v34, rfl, rfl⟩ := hR
            refine rl_nil ?_
            refine fin_nxt ?_
            refine w_condM h rfl (fun _ h => ?_) (fun _ h => ?_)
            · skip
              refine w_seq ?_
              refine w_region ?_
              refine op_cons rfl (OpV.t (v_move rfl) ?_)
              refine op_cons rfl (OpV.t (v_move rfl) ?_)
              refine cal_inv h fun y35 hy35 h => ?_
              refine op_cons rfl (t_call (r05_parser_bounds_w hy35) hT (.same rfl .nil) (.cons .here (.cons .here (.cons .here (.cons .here .nil)))) (fun R H' hR => ?_))
              obtain ⟨t36, t37, v38, rfl, rfl⟩ := hR
              refine op_cons rfl (OpV.t (v_nilCheck rfl) ?_)
              refine op_cons rfl (OpV.t (v_fa rfl pt83_0_3 fd83_3) ?_)
              refine op_cons rfl (t_storeC (y' := (((2 : Int), a_n_.name, a_n_.mark, y35.1, (TList.mk t_a_n_4 a_n_.items), (TList.mk t_a_n_5 a_n_.fields), a_n_.root, a_n_.more, a_n_.of) : (Int × Str × GMark × GCon × (TList GItem) × (TList GFld) × Int × Bool × Int))) ty79 rfl rfl (fun _ _ h => h) (.there (.there (.there (.there .here)))) rfl ?_)
              refine rl_nil ?_
              refine fin_nxt ?_
              refine w_region ?_
              refine op_cons rfl (OpV.t (v_move rfl) ?_)
              refine cal_inv h fun y39 hy39 h => ?_
              refine op_cons rfl (t_call (r05_parser_must_w hy39) hT (.same rfl (.same rfl .nil)) (.cons (.there .here) (.cons (.there .here) (.cons (.there .here) (.cons (.there .here) .nil)))) (fun R H' hR => ?_))
              obtain ⟨t40, t41, v42, rfl, rfl⟩ := hR
              refine rl_nil ?_
              refine fin_block ?_
              refine fin_post .nil (.cons .here (.cons .here (.cons .here (.cons .here (.cons .here (.cons .here (.cons .here .nil))))))) ?_
              obtain rfl := Option.some.inj h
              exact ⟨t40, t41, v42, t_a_n_4, t_a_n_5, rfl, rfl⟩
            · skip
              refine w_skip ?_
              refine fin_block ?_
              refine fin_post .nil (.cons .here (.cons .here (.cons .here (.cons .here (.cons .here (.cons .here (.cons .here .nil))))))) ?_
              obtain rfl := Option.some.inj h
              exact ⟨t32, t33, v34, t_a_n_4, t_a_n_5, rfl, rfl⟩
          · skip
            refine w_seq ?_
            refine w_region ?_
            refine op_cons rfl (OpV.t (v_move rfl) ?_)
            refine cal_inv h fun y43 hy43 h => ?_
            refine op_cons rfl (t_call (r05_parser_is_w hy43) hT (.same rfl (.same rfl .nil)) (.cons .here (.cons .here (.cons .here (.cons .here .nil)))) (fun R H' hR => ?_))
            obtain ⟨t44, t45, v46, rfl, rfl⟩ := hR
            refine op_cons rfl (OpV.t (v_assign rfl) ?_)
            refine rl_nil ?_
            refine fin_nxt ?_
            refine w_condM h rfl (fun _ h => ?_) (fun _ h => ?_)
            · skip
              refine w_seq ?_
              refine w_region ?_
              refine op_cons rfl (OpV.t (v_move rfl) ?_)
              refine cal_inv h fun y47 hy47 h => ?_
              refine op_cons rfl (t_call (r05_parser_must_w hy47) hT (.same rfl (.same rfl .nil)) (.cons .here (.cons .here (.cons .here (.cons .here .nil)))) (fun R H' hR => ?_))
              obtain ⟨t48, t49, v50, rfl, rfl⟩ := hR
              refine rl_nil ?_
              refine fin_nxt ?_
              refine w_seq ?_
              refine w_region ?_
              refine op_cons rfl (OpV.t (v_move rfl) ?_)
              refine op_cons rfl (OpV.t (v_nilCheck rfl) ?_)
              refine op_cons rfl (OpV.t (v_fa rfl pt83_0_0 fd83_0) ?_)
              refine op_cons rfl (t_storeC (y' := (((5 : Int), a_n_.name, a_n_.mark, a_n_.con, (TList.mk t_a_n_4 a_n_.items), (TList.mk t_a_n_5 a_n_.fields), a_n_.root, a_n_.more, a_n_.of) : (Int × Str × GMark × GCon × (TList GItem) × (TList GFld) × Int × Bool × Int))) ty3 rfl rfl (fun _ _ h => h) (.there (.there (.there (.there .here)))) rfl ?_)
              refine rl_nil ?_
              refine fin_nxt ?_
              refine w_region ?_
              refine op_cons rfl (OpV.t (v_move rfl) ?_)
              refine op_cons rfl (OpV.t (v_move rfl) ?_)
              refine cal_inv h fun y51 hy51 h => ?_
              refine op_cons rfl (t_call (r05_parser_size_w hy51) hT (.same rfl .nil) (.cons (.there .here) (.cons (.there .here) (.cons (.there .here) (.cons (.there .here) .nil)))) (fun R H' hR => ?_))
              obtain ⟨t52, t53, v54, rfl, rfl⟩ := hR
              refine op_cons rfl (OpV.t (v_nilCheck rfl) ?_)
              refine op_cons rfl (OpV.t (v_fa rfl pt83_0_3 fd83_3) ?_)
              refine op_cons rfl (t_storeC (y' := (((5 : Int), a_n_.name, a_n_.mark, y51.1, (TList.mk t_a_n_4 a_n_.items), (TList.mk t_a_n_5 a_n_.fields), a_n_.root, a_n_.more, a_n_.of) : (Int × Str × GMark × GCon × (TList GItem) × (TList GFld) × Int × Bool × Int))) ty79 rfl rfl (fun _ _ h => h) (.there (.there (.there (.there .here)))) rfl ?_)
              refine rl_nil ?_
              refine fin_block ?_
              refine fin_post .nil (.cons (.there .here) (.cons (.there .here) (.cons (.there .here) (.cons (.there .here) (.cons .here (.cons .here (.cons .here .nil))))))) ?_
              obtain rfl := Option.some.inj h
              exact ⟨t52, t53, v54, t_a_n_4, t_a_n_5, rfl, rfl⟩
            · skip
              refine w_seq ?_
              refine w_region ?_
              refine op_cons rfl (OpV.t (v_move rfl) ?_)
              refine cal_inv h fun y55 hy55 h => ?_
              refine op_cons rfl (t_call (r05_parser_is_w hy55) hT (.same rfl (.same rfl .nil)) (.cons .here (.cons .here (.cons .here (.cons .here .nil)))) (fun R H' hR => ?_))
              obtain ⟨t56, t57, v58, rfl, rfl⟩ := hR
              refine op_cons rfl (OpV.t (v_assign rfl) ?_)
              refine rl_nil ?_
              refine fin_nxt ?_
              refine w_condM h rfl (fun _ h => ?_) (fun _ h => ?_)
              · skip
                refine w_seq ?_
                refine w_region ?_
                refine op_cons rfl (OpV.t (v_move rfl) ?_)
                refine op_cons rfl (OpV.t (v_nilCheck rfl) ?_)
                refine op_cons rfl (OpV.t (v_fa rfl pt83_0_0 fd83_0) ?_)
                refine op_cons rfl (t_storeC (y' := (((3 : Int), a_n_.name, a_n_.mark, a_n_.con, (TList.mk t_a_n_4 a_n_.items), (TList.mk t_a_n_5 a_n_.fields), a_n_.root, a_n_.more, a_n_.of) : (Int × Str × GMark × GCon × (TList GItem) × (TList GFld) × Int × Bool × Int))) ty3 rfl rfl (fun _ _ h => h) (.there (.there (.there (.there .here)))) rfl ?_)
                refine rl_nil ?_
                refine fin_nxt ?_
                refine w_seq ?_
                refine w_region ?_
                refine op_cons rfl (OpV.t (v_move rfl) ?_)
                refine cal_inv h fun y59 hy59 h => ?_
                refine op_cons rfl (t_call (r05_parser_must_w hy59) hT (.same rfl (.same rfl .nil)) (.cons (.there .here) (.cons (.there .here) (.cons (.there .here) (.cons (.there .here) .nil)))) (fun R H' hR => ?_))
                obtain ⟨t60, t61, v62, rfl, rfl⟩ := hR
                refine rl_nil ?_
                refine fin_nxt ?_
                refine w_seq ?_
                refine w_region ?_
                refine op_cons rfl (OpV.t (v_move rfl) ?_)
                refine op_cons rfl (OpV.t (v_move rfl) ?_)
                refine cal_inv h fun y63 hy63 h => ?_
                refine op_cons rfl (t_call (r05_parser_items_w hy63) hT (.same rfl (.same rfl .nil)) (.cons .here (.cons .here (.cons .here (.cons .here (.cons .here (.cons .here (.cons .here .nil))))))) (fun R H' hR => ?_))
                obtain ⟨t64, t65, v66, t67, t68, rfl, rfl⟩ := hR
                refine rl_nil ?_
                refine fin_nxt ?_
                refine w_region ?_
                refine op_cons rfl (OpV.t (v_move rfl) ?_)
                refine cal_inv h fun y69 hy69 h => ?_
                refine op_cons rfl (t_call (r05_parser_must_w hy69) hT (.same rfl (.same rfl .nil)) (.cons .here (.cons .here (.cons .here (.cons .here .nil)))) (fun R H' hR => ?_))
                obtain ⟨t70, t71, v72, rfl, rfl⟩ := hR
                refine rl_nil ?_
                refine fin_block ?_
                refine fin_post .nil (.cons .here (.cons .here (.cons .here (.cons .here (.cons .here (.cons .here (.cons .here .nil))))))) ?_
                obtain rfl := Option.some.inj h
                exact ⟨t70, t71, v72, t67, t68, rfl, rfl⟩
              · skip
                refine w_seq ?_
                refine w_region ?_
                refine op_cons rfl (OpV.t (v_move rfl) ?_)
                refine cal_inv h fun y73 hy73 h => ?_
                refine op_cons rfl (t_call (r05_parser_is_w hy73) hT (.same rfl (.same rfl .nil)) (.cons .here (.cons .here (.cons .here (.cons .here .nil)))) (fun R H' hR => ?_))
                obtain ⟨t74, t75, v76, rfl, rfl⟩ := hR
                refine op_cons rfl (OpV.t (v_assign rfl) ?_)
                refine rl_nil ?_
                refine fin_nxt ?_
                refine w_condM h rfl (fun _ h => ?_) (fun _ h => ?_)
                · skip
                  refine w_seq ?_
                  refine w_region ?_
                  refine op_cons rfl (OpV.t (v_move rfl) ?_)
                  refine op_cons rfl (OpV.t (v_nilCheck rfl) ?_)
                  refine op_cons rfl (OpV.t (v_fa rfl pt83_0_0 fd83_0) ?_)
                  refine op_cons rfl (t_storeC (y' := (((8 : Int), a_n_.name, a_n_.mark, a_n_.con, (TList.mk t_a_n_4 a_n_.items), (TList.mk t_a_n_5 a_n_.fields), a_n_.root, a_n_.more, a_n_.of) : (Int × Str × GMark × GCon × (TList GItem) × (TList GFld) × Int × Bool × Int))) ty3 rfl rfl (fun _ _ h => h) (.there (.there (.there (.there .here)))) rfl ?_)
                  refine rl_nil ?_
                  refine fin_nxt ?_
                  refine w_seq ?_
                  refine w_region ?_
                  refine op_cons rfl (OpV.t (v_move rfl) ?_)
                  refine cal_inv h fun y77 hy77 h => ?_
                  refine op_cons rfl (t_call (r05_parser_must_w hy77) hT (.same rfl (.same rfl .nil)) (.cons (.there .here) (.cons (.there .here) (.cons (.there .here) (.cons (.there .here) .nil)))) (fun R H' hR => ?_))
                  obtain ⟨t78, t79, v80, rfl, rfl⟩ := hR
                  refine rl_nil ?_
                  refine fin_nxt ?_
                  refine w_region ?_
                  refine op_cons rfl (OpV.t (v_move rfl) ?_)
                  refine op_cons rfl (OpV.t (v_move rfl) ?_)
                  refine op_cons rfl (OpV.t (v_move rfl) ?_)
                  refine cal_inv h fun y81 hy81 h => ?_
                  refine op_cons rfl (t_call (h_r05_parser_fields hy81) hT (.same rfl (.same rfl (.same rfl .nil))) (.cons .here (.cons .here (.cons .here (.cons .here (.cons .here (.cons .here (.cons .here .nil))))))) (fun R H' hR => ?_))
                  obtain ⟨t82, t83, v84, t85, t86, rfl, rfl⟩ := hR
                  refine rl_nil ?_
                  refine fin_block ?_
                  refine fin_post .nil (.cons .here (.cons .here (.cons .here (.cons .here (.cons .here (.cons .here (.cons .here .nil))))))) ?_
                  obtain rfl := Option.some.inj h
                  exact ⟨t82, t83, v84, t85, t86, rfl, rfl⟩
                · skip
                  refine w_seq ?_
                  refine w_region ?_
                  refine op_cons rfl (OpV.t (v_move rfl) ?_)
                  refine cal_inv h fun y87 hy87 h => ?_
                  refine op_cons rfl (t_call (r05_parser_is_w hy87) hT (.same rfl (.same rfl .nil)) (.cons .here (.cons .here (.cons .here (.cons .here .nil)))) (fun R H' hR => ?_))
                  obtain ⟨t88, t89, v90, rfl, rfl⟩ := hR
                  refine op_cons rfl (OpV.t (v_assign rfl) ?_)
                  refine rl_nil ?_
                  refine fin_nxt ?_
                  refine w_condM h rfl (fun _ h => ?_) (fun _ h => ?_)
                  · skip
                    refine w_seq ?_
                    refine w_region ?_
                    refine op_cons rfl (OpV.t (v_move rfl) ?_)
                    refine op_cons rfl (OpV.t (v_nilCheck rfl) ?_)
                    refine op_cons rfl (OpV.t (v_fa rfl pt83_0_0 fd83_0) ?_)
                    refine op_cons rfl (t_storeC (y' := (((9 : Int), a_n_.name, a_n_.mark, a_n_.con, (TList.mk t_a_n_4 a_n_.items), (TList.mk t_a_n_5 a_n_.fields), a_n_.root, a_n_.more, a_n_.of) : (Int × Str × GMark × GCon × (TList GItem) × (TList GFld) × Int × Bool × Int))) ty3 rfl rfl (fun _ _ h => h) (.there (.there (.there (.there .here)))) rfl ?_)
                    refine rl_nil ?_
                    refine fin_nxt ?_
                    refine w_seq ?_
                    refine w_region ?_
                    refine op_cons rfl (OpV.t (v_move rfl) ?_)
                    refine cal_inv h fun y91 hy91 h => ?_
                    refine op_cons rfl (t_call (r05_parser_must_w hy91) hT (.same rfl (.same rfl .nil)) (.cons (.there .here) (.cons (.there .here) (.cons (.there .here) (.cons (.there .here) .nil)))) (fun R H' hR => ?_))
                    obtain ⟨t92, t93, v94, rfl, rfl⟩ := hR
                    refine rl_nil ?_
                    refine fin_nxt ?_
                    refine w_region ?_
                    refine op_cons rfl (OpV.t (v_move rfl) ?_)
                    refine op_cons rfl (OpV.t (v_move rfl) ?_)
                    refine op_cons rfl (OpV.t (v_move rfl) ?_)
                    refine cal_inv h fun y95 hy95 h => ?_
                    refine op_cons rfl (t_call (h_r05_parser_fields hy95) hT (.same rfl (.same rfl (.same rfl .nil))) (.cons .here (.cons .here (.cons .here (.cons .here (.cons .here (.cons .here (.cons .here .nil))))))) (fun R H' hR => ?_))
                    obtain ⟨t96, t97, v98, t99, t100, rfl, rfl⟩ := hR
                    refine rl_nil ?_
                    refine fin_block ?_
                    refine fin_post .nil (.cons .here (.cons .here (.cons .here (.cons .here (.cons .here (.cons .here (.cons .here .nil))))))) ?_
                    obtain rfl := Option.some.inj h
                    exact ⟨t96, t97, v98, t99, t100, rfl, rfl⟩
                  · skip
                    refine w_seq ?_
                    refine w_region ?_
                    refine op_cons rfl (OpV.t (v_move rfl) ?_)
                    refine cal_inv h fun y101 hy101 h => ?_
                    refine op_cons rfl (t_call (r05_parser_is_w hy101) hT (.same rfl (.same rfl .nil)) (.cons .here (.cons .here (.cons .here (.cons .here .nil)))) (fun R H' hR => ?_))
                    obtain ⟨t102, t103, v104, rfl, rfl⟩ := hR
                    refine op_cons rfl (OpV.t (v_assign rfl) ?_)
                    refine rl_nil ?_
                    refine fin_nxt ?_
                    refine w_condM h rfl (fun _ h => ?_) (fun _ h => ?_)
                    · skip
                      refine w_seq ?_
                      refine w_seq ?_
                      refine w_region ?_
                      refine op_cons rfl (OpV.t (v_move rfl) ?_)
                      refine cal_inv h fun y105 hy105 h => ?_
                      refine op_cons rfl (t_call (r05_parser_is_w hy105) hT (.same rfl (.same rfl .nil)) (.cons .here (.cons .here (.cons .here (.cons .here .nil)))) (fun R H' hR => ?_))
                      obtain ⟨t106, t107, v108, rfl, rfl⟩ := hR
                      refine rl_nil ?_
                      refine fin_nxt ?_
                      refine w_condM h rfl (fun _ h => ?_) (fun _ h => ?_)
                      · skip
                        refine w_seq ?_
                        refine w_region ?_
                        refine op_cons rfl (OpV.t (v_move rfl) ?_)
                        refine op_cons rfl (OpV.t (v_nilCheck rfl) ?_)
                        refine op_cons rfl (OpV.t (v_fa rfl pt83_0_0 fd83_0) ?_)
                        refine op_cons rfl (t_storeC (y' := (((7 : Int), a_n_.name, a_n_.mark, a_n_.con, (TList.mk t_a_n_4 a_n_.items), (TList.mk t_a_n_5 a_n_.fields), a_n_.root, a_n_.more, a_n_.of) : (Int × Str × GMark × GCon × (TList GItem) × (TList GFld) × Int × Bool × Int))) ty3 rfl rfl (fun _ _ h => h) (.there (.there (.there (.there .here)))) rfl ?_)
                        refine rl_nil ?_
                        refine fin_nxt ?_
                        refine w_seq ?_
                        refine w_region ?_
                        refine op_cons rfl (OpV.t (v_move rfl) ?_)
                        refine op_cons rfl (OpV.t (v_move rfl) ?_)
                        refine op_cons rfl (OpV.t (v_move rfl) ?_)
                        refine cal_inv h fun y109 hy109 h => ?_
                        refine op_cons rfl (t_call (h_r05_parser_fields hy109) hT (.same rfl (.same rfl (.same rfl .nil))) (.cons (.there .here) (.cons (.there .here) (.cons (.there .here) (.cons (.there .here) (.cons .here (.cons .here (.cons .here .nil))))))) (fun R H' hR => ?_))
                        obtain ⟨t110, t111, v112, t113, t114, rfl, rfl⟩ := hR
                        refine rl_nil ?_
                        refine fin_nxt ?_
                        refine w_ret ?_
                        refine ret_nxt ?_
                        refine ret_block ?_
                        refine ret_post .nil (.cons .here (.cons .here (.cons .here (.cons .here (.cons .here (.cons .here (.cons .here .nil))))))) ?_
                        obtain rfl := Option.some.inj h
                        exact ⟨t110, t111, v112, t113, t114, rfl, rfl⟩
                      · skip
                        refine w_skip ?_
                        refine fin_nxt ?_
                        refine w_seq ?_
                        refine w_region ?_
                        refine op_cons rfl (OpV.t (v_move rfl) ?_)
                        refine op_cons rfl (OpV.t (v_nilCheck rfl) ?_)
                        refine op_cons rfl (OpV.t (v_fa rfl pt83_0_0 fd83_0) ?_)
                        refine op_cons rfl (t_storeC (y' := (((10 : Int), a_n_.name, a_n_.mark, a_n_.con, (TList.mk t_a_n_4 a_n_.items), (TList.mk t_a_n_5 a_n_.fields), a_n_.root, a_n_.more, a_n_.of) : (Int × Str × GMark × GCon × (TList GItem) × (TList GFld) × Int × Bool × Int))) ty3 rfl rfl (fun _ _ h => h) (.there (.there (.there (.there .here)))) rfl ?_)
                        refine rl_nil ?_
                        refine fin_nxt ?_
                        refine w_seq ?_
                        refine w_region ?_
                        refine op_cons rfl (OpV.t (v_move rfl) ?_)
                        refine op_cons rfl (OpV.t (v_move rfl) ?_)
                        refine cal_inv h fun y115 hy115 h => ?_
                        refine op_cons rfl (t_call (r05_parser_size_w hy115) hT (.same rfl .nil) (.cons (.there .here) (.cons (.there .here) (.cons (.there .here) (.cons (.there .here) .nil)))) (fun R H' hR => ?_))
                        obtain ⟨t116, t117, v118, rfl, rfl⟩ := hR
                        refine op_cons rfl (OpV.t (v_nilCheck rfl) ?_)
                        refine op_cons rfl (OpV.t (v_fa rfl pt83_0_3 fd83_3) ?_)
                        refine op_cons rfl (t_storeC (y' := (((10 : Int), a_n_.name, a_n_.mark, y115.1, (TList.mk t_a_n_4 a_n_.items), (TList.mk t_a_n_5 a_n_.fields), a_n_.root, a_n_.more, a_n_.of) : (Int × Str × GMark × GCon × (TList GItem) × (TList GFld) × Int × Bool × Int))) ty79 rfl rfl (fun _ _ h => h) (.there (.there (.there (.there .here)))) rfl ?_)
                        refine rl_nil ?_
                        refine fin_nxt ?_
                        refine w_seq ?_
                        refine w_region ?_
                        refine op_cons rfl (OpV.t (v_move rfl) ?_)
                        refine cal_inv h fun y119 hy119 h => ?_
                        refine op_cons rfl (t_call (r05_parser_must_w hy119) hT (.same rfl (.same rfl .nil)) (.cons (.there .here) (.cons (.there .here) (.cons (.there .here) (.cons (.there .here) .nil)))) (fun R H' hR => ?_))
                        obtain ⟨t120, t121, v122, rfl, rfl⟩ := hR
                        refine rl_nil ?_
                        refine fin_nxt ?_
                        refine w_region ?_
                        refine op_cons rfl (OpV.t (v_move rfl) ?_)
                        refine op_cons rfl (OpV.t (v_move rfl) ?_)
                        refine op_cons rfl (OpV.t (v_move rfl) ?_)
                        refine ck_inv h fun q123 h => ?_
                        refine op_cons rfl (OpV.t (v_add rfl rfl q123) ?_)
                        refine cal_inv h fun y124 hy124 h => ?_
                        refine op_cons rfl (t_call (h_r05_parser_typ hy124) hT (.same rfl (.same rfl .nil)) (.cons .here (.cons .here (.cons .here (.cons .here .nil)))) (fun R H' hR => ?_))
                        obtain ⟨t125, t126, v127, rfl, rfl⟩ := hR
                        refine op_cons rfl (OpV.t (v_nilCheck rfl) ?_)
                        refine op_cons rfl (OpV.t (v_fa rfl pt83_0_8 fd83_8) ?_)
                        refine op_cons rfl (t_storeC (y' := (((10 : Int), a_n_.name, a_n_.mark, y115.1, (TList.mk t_a_n_4 a_n_.items), (TList.mk t_a_n_5 a_n_.fields), a_n_.root, a_n_.more, y124.1) : (Int × Str × GMark × GCon × (TList GItem) × (TList GFld) × Int × Bool × Int))) ty3 rfl rfl (fun _ _ h => h) (.there (.there (.there (.there .here)))) rfl ?_)
                        refine rl_nil ?_
                        refine fin_block ?_
                        refine fin_post .nil (.cons (.there .here) (.cons (.there .here) (.cons (.there .here) (.cons (.there .here) (.cons .here (.cons .here (.cons .here .nil))))))) ?_
                        obtain rfl := Option.some.inj h
                        exact ⟨t125, t126, v127, t_a_n_4, t_a_n_5, rfl, rfl⟩
                    · skip
                      refine w_seq ?_
                      refine w_region ?_
                      refine op_cons rfl (OpV.t (v_fi rfl GTok.f0 fd53_0 rfl (z := y6.1.kind)) ?_)
                      refine op_cons rfl (OpV.t (v_loadI ty3 rfl) ?_)
                      refine op_cons rfl (OpV.t (v_eql rfl rfl) ?_)
                      refine op_cons rfl (OpV.t (v_assign rfl) ?_)
                      refine rl_nil ?_
                      refine fin_nxt ?_
                      refine w_condM h rfl (fun _ h => ?_) (fun _ h => ?_)
                      · skip
                        refine w_seq ?_
                        refine w_regionD (.v 0 (.v 1 (.v 2 (.v 3 (.v 4 (.v 5 (.t 6 (.v 7 (.v 8 (.t 9 .nil)))))))))) moOrd (by kernel_rfl) ?_
                        refine rd_v rfl (v_move rfl) ?_
                        refine rd_v rfl (v_move rfl) ?_
                        refine rd_v rfl (v_fi rfl GTok.f1 fd53_1 rfl (z := y6.1.text)) ?_
                        refine rd_v rfl (v_loadI ty9 rfl) ?_
                        refine rd_v rfl (v_nilCheck rfl) ?_
                        refine rd_v rfl (v_fa rfl pt83_0_0 fd83_0) ?_
                        refine rd_t rfl rfl (t_storeC (y' := (((11 : Int), a_n_.name, a_n_.mark, a_n_.con, (TList.mk t_a_n_4 a_n_.items), (TList.mk t_a_n_5 a_n_.fields), a_n_.root, a_n_.more, a_n_.of) : (Int × Str × GMark × GCon × (TList GItem) × (TList GFld) × Int × Bool × Int))) ty3 rfl rfl (fun _ _ h => h) (.there (.there (.there (.there .here)))) rfl ?_)
                        refine rd_v rfl (v_nilCheck rfl) ?_
                        refine rd_v rfl (v_fa rfl pt83_0_1 fd83_1) ?_
                        refine rd_t rfl rfl (t_storeC (y' := (((11 : Int), y6.1.text, a_n_.mark, a_n_.con, (TList.mk t_a_n_4 a_n_.items), (TList.mk t_a_n_5 a_n_.fields), a_n_.root, a_n_.more, a_n_.of) : (Int × Str × GMark × GCon × (TList GItem) × (TList GFld) × Int × Bool × Int))) ty9 rfl rfl (fun _ _ h => h) .here rfl ?_)
                        refine rd_nil ?_
                        refine fin_nxt ?_
                        refine w_region ?_
                        refine op_cons rfl (OpV.t (v_move rfl) ?_)
                        refine cal_inv h fun y128 hy128 h => ?_
                        refine op_cons rfl (t_call (r05_parser_next_w hy128) hT (.same rfl .nil) (.cons (.there .here) (.cons (.there .here) (.cons (.there .here) (.cons (.there .here) .nil)))) (fun R H' hR => ?_))
                        obtain ⟨t129, t130, v131, rfl, rfl⟩ := hR
                        refine rl_nil ?_
                        refine fin_block ?_
                        refine fin_post .nil (.cons .here (.cons .here (.cons .here (.cons .here (.cons .here (.cons .here (.cons .here .nil))))))) ?_
                        obtain rfl := Option.some.inj h
                        exact ⟨t129, t130, v131, t_a_n_4, t_a_n_5, rfl, rfl⟩
                      · skip
                        refine w_region ?_
                        refine op_cons rfl (OpV.t (v_move rfl) ?_)
                        refine op_cons rfl (OpV.t (v_loadI ty53 rfl) ?_)
                        refine cal_inv h fun y132 hy132 h => ?_
                        refine op_cons rfl (t_call (r05_parser_fail_w hy132) hT (.same rfl (.same rfl (.same rfl .nil))) (.cons .here (.cons .here (.cons .here (.cons .here .nil)))) (fun R H' hR => ?_))
                        obtain ⟨t133, t134, v135, rfl, rfl⟩ := hR
                        refine rl_nil ?_
                        refine fin_block ?_
                        refine fin_post .nil (.cons .here (.cons .here (.cons .here (.cons .here (.cons .here (.cons .here (.cons .here .nil))))))) ?_
                        obtain rfl := Option.some.inj h
                        exact ⟨t133, t134, v135, t_a_n_4, t_a_n_5, rfl, rfl⟩

theorem r05_parser_fields_w0 {r05_parser_field' : GPar → GNode → Int → Int → Option (GPar × GNode)} {r05_parser_typ' : GPar → Int → Option (Int × GPar)} {r05_parser_base' : GPar → GNode → Int → Option (GPar × GNode)} {r05_parser_fields' : GPar → GNode → Int → Option (GPar × GNode)} (h_r05_parser_field : r05_parser_field_C r05_parser_field') (h_r05_parser_typ : r05_parser_typ_C r05_parser_typ') (h_r05_parser_base : r05_parser_base_C r05_parser_base') (h_r05_parser_fields : r05_parser_fields_C r05_parser_fields') : ∀ {a_x : GPar} {a_n_ : GNode} {a_depth : Int} {b_a_x : Nat} {t_a_x1 : Tok} {t_a_x2 : Tok} {v_a_x3 : Vt} {b_a_n_ : Nat} {t_a_n_4 : Tok} {t_a_n_5 : Tok} {r : GPar × GNode}, r05_parser_fields_F r05_parser_field' r05_parser_typ' r05_parser_base' r05_parser_fields' a_x a_n_ a_depth = some r → Ctr Tryd.prog 64 [ptrv b_a_x (Fld.id ((List GTok) × Int × (Str × Int × (TList Str) × (TList Int) × Vh) × Int × Int)), ptrv b_a_n_ (Fld.id (Int × Str × GMark × GCon × (TList GItem) × (TList GFld) × Int × Bool × Int)), isv (a_depth)] [boxE b_a_x ((a_x.l, a_x.at_, (a_x.m.name, a_x.m.tagging, (TList.mk t_a_x1 a_x.m.names), (TList.mk t_a_x2 a_x.m.types), (Vh.mk v_a_x3 a_x.m.nodes.length)), a_x.e, a_x.p) : ((List GTok) × Int × (Str × Int × (TList Str) × (TList Int) × Vh) × Int × Int)), tokE t_a_x1, tokE t_a_x2, vecE v_a_x3 (a_x.m.nodes : List GNode), boxE b_a_n_ ((a_n_.kind, a_n_.name, a_n_.mark, a_n_.con, (TList.mk t_a_n_4 a_n_.items), (TList.mk t_a_n_5 a_n_.fields), a_n_.root, a_n_.more, a_n_.of) : (Int × Str × GMark × GCon × (TList GItem) × (TList GFld) × Int × Bool × Int)), tokE t_a_n_4, tokE t_a_n_5] (fun R H => ∃ u1 : Tok, ∃ u2 : Tok, ∃ u3 : Vt, ∃ u4 : Tok, ∃ u5 : Tok, R = oneOf [] ∧ H = [boxE b_a_x ((r.1.l, r.1.at_, (r.1.m.name, r.1.m.tagging, (TList.mk u1 r.1.m.names), (TList.mk u2 r.1.m.types), (Vh.mk u3 r.1.m.nodes.length)), r.1.e, r.1.p)), tokE u1, tokE u2, vecE u3 (r.1.m.nodes), boxE b_a_n_ ((r.2.kind, r.2.name, r.2.mark, r.2.con, (TList.mk u4 r.2.items), (TList.mk u5 r.2.fields), r.2.root, r.2.more, r.2.of)), tokE u4, tokE u5]) := by
  intro a_x a_n_ a_depth b_a_x t_a_x1 t_a_x2 v_a_x3 b_a_n_ t_a_n_4 t_a_n_5 r h
  unfold r05_parser_fields_F at h
  refine spec_intro Tryd.func64 rfl (by decide +kernel) (by rfl) fun w0 S0 hT => ?_
  refine w_seq ?_
  refine w_seq ?_
  refine w_region ?_
  refine op_cons rfl (OpV.t (v_move rfl) ?_)
  refine cal_inv h fun y6 hy6 h => ?_
  refine op_cons rfl (t_call (r05_parser_is_w hy6) hT (.same rfl (.same rfl .nil)) (.cons .here (.cons .here (.cons .here (.cons .here .nil)))) (fun R H' hR => ?_))
  obtain ⟨t7, t8, v9, rfl, rfl⟩ := hR
  refine rl_nil ?_
  refine fin_nxt ?_
  refine w_condM h rfl (fun _ h => ?_) (fun _ h => ?_)
  · skip
    refine w_ret ?_
    refine ret_nxt ?_
    refine ret_post .nil (.cons .here (.cons .here (.cons .here (.cons .here (.cons .here (.cons .here (.cons .here .nil))))))) ?_
    obtain rfl := Option.some.inj h
    exact ⟨t7, t8, v9, t_a_n_4, t_a_n_5, rfl, rfl⟩
  · skip
    refine w_skip ?_
    refine fin_nxt ?_
    refine w_seq ?_
    refine w_region ?_
    refine op_cons rfl (OpV.t (v_assign rfl) ?_)
    refine rl_nil ?_
    refine fin_nxt ?_
    refine w_seq ?_
    refine w_J (ι := GPar × GNode) (γ := Tok × Tok × Vt × Tok × Tok) (fun q10 g10 => [(6, anyv)]) (fun q10 g10 => [boxE b_a_x ((q10.1.l, q10.1.at_, (q10.1.m.name, q10.1.m.tagging, (TList.mk g10.1 q10.1.m.names), (TList.mk g10.2.1 q10.1.m.types), (Vh.mk g10.2.2.1 q10.1.m.nodes.length)), q10.1.e, q10.1.p) : ((List GTok) × Int × (Str × Int × (TList Str) × (TList Int) × Vh) × Int × Int)), tokE g10.1, tokE g10.2.1, vecE g10.2.2.1 (q10.1.m.nodes : List GNode), boxE b_a_n_ ((q10.2.kind, q10.2.name, q10.2.mark, q10.2.con, (TList.mk g10.2.2.2.1 q10.2.items), (TList.mk g10.2.2.2.2 q10.2.fields), q10.2.root, q10.2.more, q10.2.of) : (Int × Str × GMark × GCon × (TList GItem) × (TList GFld) × Int × Bool × Int)), tokE g10.2.2.2.1, tokE g10.2.2.2.2]) (.cons .here (.cons (.there (.there (.there .here))) (.cons .here (.cons .here (.cons .here (.cons .here (.cons .here .nil))))))) h (fun q10 g10 h => ?_) (fun J11 h hJ11 => ?_)
    · skip
      refine w_seq ?_
      refine w_region ?_
      refine op_cons rfl (OpV.t (v_move rfl) ?_)
      refine cal_inv h fun y127 hy127 h => ?_
      refine op_cons rfl (t_call (r05_parser_must_w hy127) hT (.same rfl (.same rfl .nil)) (.cons .here (.cons .here (.cons .here (.cons .here .nil)))) (fun R H' hR => ?_))
      obtain ⟨t128, t129, v130, rfl, rfl⟩ := hR
      refine rl_nil ?_
      refine fin_nxt ?_
      refine w_seq ?_
      refine w_region ?_
      refine op_cons rfl (OpV.t (v_move rfl) ?_)
      refine op_cons rfl (OpV.t (v_nilCheck rfl) ?_)
      refine op_cons rfl (OpV.t (v_fa rfl pt83_0_7 fd83_7) ?_)
      refine op_cons rfl (t_loadC (R := isv (q10.2.more)) ty4 rfl (.there (.there (.there (.there .here)))) (fun _ _ h => h) ?_)
      refine op_cons rfl (OpV.t (v_not rfl) ?_)
      refine rl_nil ?_
      refine fin_nxt ?_
      refine w_condM h rfl (fun _ h => ?_) (fun _ h => ?_)
      · skip
        refine w_region ?_
        refine op_cons rfl (OpV.t (v_move rfl) ?_)
        refine op_cons rfl (OpV.t (v_move rfl) ?_)
        refine op_cons rfl (OpV.t (v_nilCheck rfl) ?_)
        refine op_cons rfl (OpV.t (v_fa rfl pt83_0_5 fd83_5) ?_)
        refine op_cons rfl (t_loadC (R := appv g10.2.2.2.2 (q10.2.fields)) ty81 rfl (.there (.there (.there (.there .here)))) isvT1 ?_)
        refine op_cons rfl (OpV.t (v_ln (l := q10.2.fields) rfl appv_isv sl81) ?_)
        refine op_cons rfl (OpV.t (v_nilCheck rfl) ?_)
        refine op_cons rfl (OpV.t (v_fa rfl pt83_0_6 fd83_6) ?_)
        refine op_cons rfl (t_storeC (y' := ((q10.2.kind, q10.2.name, q10.2.mark, q10.2.con, (TList.mk g10.2.2.2.1 q10.2.items), (TList.mk g10.2.2.2.2 q10.2.fields), (q10.2.fields.length : Int), q10.2.more, q10.2.of) : (Int × Str × GMark × GCon × (TList GItem) × (TList GFld) × Int × Bool × Int))) ty3 rfl rfl (fun _ _ h => h) (.there (.there (.there (.there .here)))) rfl ?_)
        refine rl_nil ?_
        refine fin_post .nil (.cons (.there .here) (.cons (.there .here) (.cons (.there .here) (.cons (.there .here) (.cons .here (.cons .here (.cons .here .nil))))))) ?_
        obtain rfl := Option.some.inj h
        exact ⟨t128, t129, v130, g10.2.2.2.1, g10.2.2.2.2, rfl, rfl⟩
      · skip
        refine w_skip ?_
        refine fin_post .nil (.cons .here (.cons .here (.cons .here (.cons .here (.cons .here (.cons .here (.cons .here .nil))))))) ?_
        obtain rfl := Option.some.inj h
        exact ⟨t128, t129, v130, g10.2.2.2.1, g10.2.2.2.2, rfl, rfl⟩
    · skip
      refine w_block ?_
      refine w_lp (ι := Int × GPar × GNode) (γ := Tok × Tok × Vt × Tok × Tok) (fun q12 g12 => [(6, isv (q12.1))]) (fun q12 g12 => [boxE b_a_x ((q12.2.1.l, q12.2.1.at_, (q12.2.1.m.name, q12.2.1.m.tagging, (TList.mk g12.1 q12.2.1.m.names), (TList.mk g12.2.1 q12.2.1.m.types), (Vh.mk g12.2.2.1 q12.2.1.m.nodes.length)), q12.2.1.e, q12.2.1.p) : ((List GTok) × Int × (Str × Int × (TList Str) × (TList Int) × Vh) × Int × Int)), tokE g12.1, tokE g12.2.1, vecE g12.2.2.1 (q12.2.1.m.nodes : List GNode), boxE b_a_n_ ((q12.2.2.kind, q12.2.2.name, q12.2.2.mark, q12.2.2.con, (TList.mk g12.2.2.2.1 q12.2.2.items), (TList.mk g12.2.2.2.2 q12.2.2.fields), q12.2.2.root, q12.2.2.more, q12.2.2.of) : (Int × Str × GMark × GCon × (TList GItem) × (TList GFld) × Int × Bool × Int)), tokE g12.2.2.2.1, tokE g12.2.2.2.2]) h (t7, t8, v9, t_a_n_4, t_a_n_5) (mod_cons (j := 6) rfl (fun _ _ h => h) mod_nil) (.cons .here (.cons .here (.cons .here (.cons .here (.cons .here (.cons .here (.cons .here .nil))))))) (fun L13 q12 g12 Q126 h hL13 eL13 rL13 => ?_)
      refine w_seq ?_
      refine w_seq ?_
      refine w_region ?_
      refine op_cons rfl (OpV.t (v_move rfl) ?_)
      refine op_cons rfl (OpV.t (v_nilCheck rfl) ?_)
      refine op_cons rfl (OpV.t (v_fa rfl pt49_0_3 fd49_3) ?_)
      refine op_cons rfl (t_loadC (R := isv (q12.2.1.e)) ty27 rfl .here (fun _ _ h => h) ?_)
      refine op_cons rfl (OpV.t (v_eql rfl rfl) ?_)
      refine rl_nil ?_
      refine fin_nxt ?_
      refine w_condM h rfl (fun _ h => ?_) (fun _ h => ?_)
      · skip
        refine w_skip ?_
        refine fin_nxt ?_
        refine w_block ?_
        refine w_seq ?_
        refine w_J (ι := Int × GPar × GNode) (γ := Tok × Tok × Vt × Tok × Tok) (fun q70 g70 => [(6, isv (q70.1))]) (fun q70 g70 => [boxE b_a_x ((q70.2.1.l, q70.2.1.at_, (q70.2.1.m.name, q70.2.1.m.tagging, (TList.mk g70.1 q70.2.1.m.names), (TList.mk g70.2.1 q70.2.1.m.types), (Vh.mk g70.2.2.1 q70.2.1.m.nodes.length)), q70.2.1.e, q70.2.1.p) : ((List GTok) × Int × (Str × Int × (TList Str) × (TList Int) × Vh) × Int × Int)), tokE g70.1, tokE g70.2.1, vecE g70.2.2.1 (q70.2.1.m.nodes : List GNode), boxE b_a_n_ ((q70.2.2.kind, q70.2.2.name, q70.2.2.mark, q70.2.2.con, (TList.mk g70.2.2.2.1 q70.2.2.items), (TList.mk g70.2.2.2.2 q70.2.2.fields), q70.2.2.root, q70.2.2.more, q70.2.2.of) : (Int × Str × GMark × GCon × (TList GItem) × (TList GFld) × Int × Bool × Int)), tokE g70.2.2.2.1, tokE g70.2.2.2.2]) (.cons .here (.cons (.there (.there (.there .here))) (.cons .here (.cons .here (.cons .here (.cons .here (.cons .here .nil))))))) h (fun q70 g70 h => ?_) (fun J71 h hJ71 => ?_)
        · skip
          refine w_seq ?_
          refine w_region ?_
          refine op_cons rfl (OpV.t (v_move rfl) ?_)
          refine cal_inv h fun y122 hy122 h => ?_
          refine op_cons rfl (t_call (r05_parser_is_w hy122) hT (.same rfl (.same rfl .nil)) (.cons .here (.cons .here (.cons .here (.cons .here .nil)))) (fun R H' hR => ?_))
          obtain ⟨t123, t124, v125, rfl, rfl⟩ := hR
          refine op_cons rfl (OpV.t (v_not rfl) ?_)
          refine rl_nil ?_
          refine fin_nxt ?_
          refine w_condM h rfl (fun _ h => ?_) (fun _ h => ?_)
          · skip
            refine w_exit ?_
            refine exi_pass rfl ?_
            refine eL13 _ _ ?_
            refine exi_block ?_
            exact hJ11 _ (t123, t124, v125, g70.2.2.2.1, g70.2.2.2.2) h _ (join_imp 10 rfl rfl (mod_cons (j := 6) rfl (fun _ _ _ => trivial) mod_nil) (.cons .here (.cons .here (.cons .here (.cons .here (.cons .here (.cons .here (.cons .here .nil))))))))
          · skip
            refine w_skip ?_
            refine fin_block ?_
            exact hL13 _ (t123, t124, v125, g70.2.2.2.1, g70.2.2.2.2) h _ (join_imp 10 rfl rfl (mod_cons (j := 6) rfl (fun _ _ h => h) mod_nil) (.cons .here (.cons .here (.cons .here (.cons .here (.cons .here (.cons .here (.cons .here .nil))))))))
        · skip
          refine w_block ?_
          refine w_seq ?_
          refine w_region ?_
          refine op_cons rfl (OpV.t (v_move rfl) ?_)
          refine op_cons rfl (OpV.t (v_nilCheck rfl) ?_)
          refine op_cons rfl (OpV.t (v_fa rfl pt83_0_7 fd83_7) ?_)
          refine op_cons rfl (t_loadC (R := isv (q12.2.2.more)) ty4 rfl (.there (.there (.there (.there .here)))) (fun _ _ h => h) ?_)
          refine op_cons rfl (OpV.t (v_not rfl) ?_)
          refine op_cons rfl (OpV.t (v_move rfl) ?_)
          refine rl_j (ι := Bool × GPar) (γ := Tok × Tok × Vt) (fun q72 g72 => [(27, isv (q72.1))]) (fun q72 g72 => [boxE b_a_x ((q72.2.l, q72.2.at_, (q72.2.m.name, q72.2.m.tagging, (TList.mk g72.1 q72.2.m.names), (TList.mk g72.2.1 q72.2.m.types), (Vh.mk g72.2.2 q72.2.m.nodes.length)), q72.2.e, q72.2.p) : ((List GTok) × Int × (Str × Int × (TList Str) × (TList Int) × Vh) × Int × Int)), tokE g72.1, tokE g72.2.1, vecE g72.2.2 (q72.2.m.nodes : List GNode)]) (.cons .here (.cons .here (.cons .here (.cons .here .nil)))) h 3 rfl (fun q72 g72 h => ?_) (fun J73 h hJ73 => ?_)
          · skip
            refine op_cons rfl (OpV.t (v_assign rfl) ?_)
            refine rl_nil ?_
            refine fin_nxt ?_
            refine w_condM h rfl (fun _ h => ?_) (fun _ h => ?_)
            · skip
              refine w_region ?_
              refine op_cons rfl (OpV.t (v_move rfl) ?_)
              refine op_cons rfl (OpV.t (v_move rfl) ?_)
              refine op_cons rfl (OpV.t (v_move rfl) ?_)
              refine op_cons rfl (OpV.t (v_nilCheck rfl) ?_)
              refine op_cons rfl (OpV.t (v_fa rfl pt83_0_5 fd83_5) ?_)
              refine op_cons rfl (t_loadC (R := appv g12.2.2.2.2 (q12.2.2.fields)) ty81 rfl (.there (.there (.there (.there .here)))) isvT1 ?_)
              refine op_cons rfl (OpV.t (v_ln (l := q12.2.2.fields) rfl appv_isv sl81) ?_)
              refine op_cons rfl (OpV.t (v_nilCheck rfl) ?_)
              refine op_cons rfl (OpV.t (v_fa rfl pt83_0_7 fd83_7) ?_)
              refine op_cons rfl (t_storeC (y' := ((q12.2.2.kind, q12.2.2.name, q12.2.2.mark, q12.2.2.con, (TList.mk g12.2.2.2.1 q12.2.2.items), (TList.mk g12.2.2.2.2 q12.2.2.fields), q12.2.2.root, true, q12.2.2.of) : (Int × Str × GMark × GCon × (TList GItem) × (TList GFld) × Int × Bool × Int))) ty4 rfl rfl (fun _ _ h => h) (.there (.there (.there (.there .here)))) rfl ?_)
              refine op_cons rfl (OpV.t (v_nilCheck rfl) ?_)
              refine op_cons rfl (OpV.t (v_fa rfl pt83_0_6 fd83_6) ?_)
              refine op_cons rfl (t_storeC (y' := ((q12.2.2.kind, q12.2.2.name, q12.2.2.mark, q12.2.2.con, (TList.mk g12.2.2.2.1 q12.2.2.items), (TList.mk g12.2.2.2.2 q12.2.2.fields), (q12.2.2.fields.length : Int), true, q12.2.2.of) : (Int × Str × GMark × GCon × (TList GItem) × (TList GFld) × Int × Bool × Int))) ty3 rfl rfl (fun _ _ h => h) .here rfl ?_)
              refine rl_nil ?_
              refine fin_block ?_
              exact hJ71 _ (g72.1, g72.2.1, g72.2.2, g12.2.2.2.1, g12.2.2.2.2) h _ (join_imp 19 rfl rfl (mod_cons (j := 6) rfl (fun _ _ h => h) mod_nil) (.cons (.there .here) (.cons (.there .here) (.cons (.there .here) (.cons (.there .here) (.cons .here (.cons .here (.cons .here .nil))))))))
            · skip
              refine w_seq ?_
              refine w_region ?_
              refine op_cons rfl (OpV.t (v_move rfl) ?_)
              refine op_cons rfl (OpV.t (v_nilCheck rfl) ?_)
              refine op_cons rfl (OpV.t (v_fa rfl pt83_0_7 fd83_7) ?_)
              refine op_cons rfl (t_loadC (R := isv (q12.2.2.more)) ty4 rfl (.there (.there (.there (.there .here)))) (fun _ _ h => h) ?_)
              refine op_cons rfl (OpV.t (v_move rfl) ?_)
              refine rl_j (ι := Bool × GPar) (γ := Tok × Tok × Vt) (fun q79 g79 => [(47, isv (q79.1))]) (fun q79 g79 => [boxE b_a_x ((q79.2.l, q79.2.at_, (q79.2.m.name, q79.2.m.tagging, (TList.mk g79.1 q79.2.m.names), (TList.mk g79.2.1 q79.2.m.types), (Vh.mk g79.2.2 q79.2.m.nodes.length)), q79.2.e, q79.2.p) : ((List GTok) × Int × (Str × Int × (TList Str) × (TList Int) × Vh) × Int × Int)), tokE g79.1, tokE g79.2.1, vecE g79.2.2 (q79.2.m.nodes : List GNode)]) (.cons .here (.cons .here (.cons .here (.cons .here .nil)))) h 3 rfl (fun q79 g79 h => ?_) (fun J80 h hJ80 => ?_)
              · skip
                refine op_cons rfl (OpV.t (v_assign rfl) ?_)
                refine rl_nil ?_
                refine fin_nxt ?_
                refine w_condM h rfl (fun _ h => ?_) (fun _ h => ?_)
                · skip
                  refine w_seq ?_
                  refine w_region ?_
                  refine op_cons rfl (OpV.t (v_move rfl) ?_)
                  refine ck_inv h fun q86 h => ?_
                  refine op_cons rfl (OpV.t (v_add rfl rfl q86) ?_)
                  refine op_cons rfl (OpV.t (v_assign rfl) ?_)
                  refine rl_nil ?_
                  refine fin_nxt ?_
                  refine w_seq ?_
                  refine w_J (ι := GPar × GNode) (γ := Tok × Tok × Vt × Tok × Tok) (fun q87 g87 => []) (fun q87 g87 => [boxE b_a_x ((q87.1.l, q87.1.at_, (q87.1.m.name, q87.1.m.tagging, (TList.mk g87.1 q87.1.m.names), (TList.mk g87.2.1 q87.1.m.types), (Vh.mk g87.2.2.1 q87.1.m.nodes.length)), q87.1.e, q87.1.p) : ((List GTok) × Int × (Str × Int × (TList Str) × (TList Int) × Vh) × Int × Int)), tokE g87.1, tokE g87.2.1, vecE g87.2.2.1 (q87.1.m.nodes : List GNode), boxE b_a_n_ ((q87.2.kind, q87.2.name, q87.2.mark, q87.2.con, (TList.mk g87.2.2.2.1 q87.2.items), (TList.mk g87.2.2.2.2 q87.2.fields), q87.2.root, q87.2.more, q87.2.of) : (Int × Str × GMark × GCon × (TList GItem) × (TList GFld) × Int × Bool × Int)), tokE g87.2.2.2.1, tokE g87.2.2.2.2]) (.cons .here (.cons (.there (.there (.there .here))) (.cons .here (.cons .here (.cons .here (.cons .here (.cons .here .nil))))))) h (fun q87 g87 h => ?_) (fun J88 h hJ88 => ?_)
                  · skip
                    refine w_region ?_
                    refine op_cons rfl (OpV.t (v_move rfl) ?_)
                    refine cal_inv h fun y112 hy112 h => ?_
                    refine op_cons rfl (t_call (r05_parser_must_w hy112) hT (.same rfl (.same rfl .nil)) (.cons .here (.cons .here (.cons .here (.cons .here .nil)))) (fun R H' hR => ?_))
                    obtain ⟨t113, t114, v115, rfl, rfl⟩ := hR
                    refine rl_nil ?_
                    refine fin_block ?_
                    exact hJ71 _ (t113, t114, v115, g87.2.2.2.1, g87.2.2.2.2) h _ (join_imp 20 rfl rfl (mod_cons (j := 6) rfl (fun _ _ h => h) mod_nil) (.cons .here (.cons .here (.cons .here (.cons .here (.cons .here (.cons .here (.cons .here .nil))))))))
                  · skip
                    refine w_block ?_
                    refine w_lp (ι := GPar × GNode) (γ := Tok × Tok × Vt × Tok × Tok) (fun q89 g89 => []) (fun q89 g89 => [boxE b_a_x ((q89.1.l, q89.1.at_, (q89.1.m.name, q89.1.m.tagging, (TList.mk g89.1 q89.1.m.names), (TList.mk g89.2.1 q89.1.m.types), (Vh.mk g89.2.2.1 q89.1.m.nodes.length)), q89.1.e, q89.1.p) : ((List GTok) × Int × (Str × Int × (TList Str) × (TList Int) × Vh) × Int × Int)), tokE g89.1, tokE g89.2.1, vecE g89.2.2.1 (q89.1.m.nodes : List GNode), boxE b_a_n_ ((q89.2.kind, q89.2.name, q89.2.mark, q89.2.con, (TList.mk g89.2.2.2.1 q89.2.items), (TList.mk g89.2.2.2.2 q89.2.fields), q89.2.root, q89.2.more, q89.2.of) : (Int × Str × GMark × GCon × (TList GItem) × (TList GFld) × Int × Bool × Int)), tokE g89.2.2.2.1, tokE g89.2.2.2.2]) h (g79.1, g79.2.1, g79.2.2, g12.2.2.2.1, g12.2.2.2.2) mod_nil (.cons .here (.cons .here (.cons .here (.cons .here (.cons .here (.cons .here (.cons .here .nil))))))) (fun L90 q89 g89 Q111 h hL90 eL90 rL90 => ?_)
                    refine w_seq ?_
                    refine w_seq ?_
                    refine w_region ?_
                    refine op_cons rfl (OpV.t (v_move rfl) ?_)
                    refine op_cons rfl (OpV.t (v_nilCheck rfl) ?_)
                    refine op_cons rfl (OpV.t (v_fa rfl pt49_0_3 fd49_3) ?_)
                    refine op_cons rfl (t_loadC (R := isv (q89.1.e)) ty27 rfl .here (fun _ _ h => h) ?_)
                    refine op_cons rfl (OpV.t (v_eql rfl rfl) ?_)
                    refine rl_nil ?_
                    refine fin_nxt ?_
                    refine w_condM h rfl (fun _ h => ?_) (fun _ h => ?_)
                    · skip
                      refine w_skip ?_
                      refine fin_nxt ?_
                      refine w_block ?_
                      refine w_seq ?_
                      refine w_region ?_
                      refine op_cons rfl (OpV.t (v_move rfl) ?_)
                      refine op_cons rfl (OpV.t (v_move rfl) ?_)
                      refine op_cons rfl (OpV.t (v_move rfl) ?_)
                      refine op_cons rfl (OpV.t (v_move rfl) ?_)
                      refine cal_inv h fun y101 hy101 h => ?_
                      refine op_cons rfl (t_call (h_r05_parser_field hy101) hT (.same rfl (.same rfl (.same rfl (.same rfl .nil)))) (.cons .here (.cons .here (.cons .here (.cons .here (.cons .here (.cons .here (.cons .here .nil))))))) (fun R H' hR => ?_))
                      obtain ⟨t102, t103, v104, t105, t106, rfl, rfl⟩ := hR
                      refine rl_nil ?_
                      refine fin_nxt ?_
                      refine w_seq ?_
                      refine w_region ?_
                      refine op_cons rfl (OpV.t (v_move rfl) ?_)
                      refine cal_inv h fun y107 hy107 h => ?_
                      refine op_cons rfl (t_call (r05_parser_is_w hy107) hT (.same rfl (.same rfl .nil)) (.cons .here (.cons .here (.cons .here (.cons .here .nil)))) (fun R H' hR => ?_))
                      obtain ⟨t108, t109, v110, rfl, rfl⟩ := hR
                      refine op_cons rfl (OpV.t (v_not rfl) ?_)
                      refine rl_nil ?_
                      refine fin_nxt ?_
                      refine w_condM h rfl (fun _ h => ?_) (fun _ h => ?_)
                      · skip
                        refine w_exit ?_
                        refine exi_pass rfl ?_
                        refine eL90 _ _ ?_
                        refine exi_block ?_
                        exact hJ88 _ (t108, t109, v110, t105, t106) h _ (join_imp 13 rfl rfl mod_nil (.cons .here (.cons .here (.cons .here (.cons .here (.cons .here (.cons .here (.cons .here .nil))))))))
                      · skip
                        refine w_skip ?_
                        refine fin_block ?_
                        exact hL90 _ (t108, t109, v110, t105, t106) h _ (join_imp 13 rfl rfl mod_nil (.cons .here (.cons .here (.cons .here (.cons .here (.cons .here (.cons .here (.cons .here .nil))))))))
                    · skip
                      refine w_exit ?_
                      refine exi_nxt ?_
                      refine eL90 _ _ ?_
                      refine exi_block ?_
                      exact hJ88 _ (g89.1, g89.2.1, g89.2.2.1, g89.2.2.2.1, g89.2.2.2.2) h _ (join_imp 5 rfl rfl mod_nil (.cons .here (.cons .here (.cons .here (.cons .here (.cons .here (.cons .here (.cons .here .nil))))))))
                · skip
                  refine w_region ?_
                  refine op_cons rfl (OpV.t (v_move rfl) ?_)
                  refine op_cons rfl (OpV.t (v_move rfl) ?_)
                  refine op_cons rfl (OpV.t (v_move rfl) ?_)
                  refine cal_inv h fun y116 hy116 h => ?_
                  refine op_cons rfl (t_call (h_r05_parser_field hy116) hT (.same rfl (.same rfl (.same rfl (.same rfl .nil)))) (.cons .here (.cons .here (.cons .here (.cons .here (.cons .here (.cons .here (.cons .here .nil))))))) (fun R H' hR => ?_))
                  obtain ⟨t117, t118, v119, t120, t121, rfl, rfl⟩ := hR
                  refine rl_nil ?_
                  refine fin_block ?_
                  exact hJ71 _ (t117, t118, v119, t120, t121) h _ (join_imp 19 rfl rfl (mod_cons (j := 6) rfl (fun _ _ h => h) mod_nil) (.cons .here (.cons .here (.cons .here (.cons .here (.cons .here (.cons .here (.cons .here .nil))))))))
              · skip
                refine rl_condM (j := 44) h rfl (fun g81 h => ?_) (fun g81 h => ?_)
                · skip
                  refine op_take rfl rfl (dj := 44) rfl g81 (OpV.t (v_move rfl) ?_)
                  refine cal_inv h fun y82 hy82 h => ?_
                  refine op_take rfl rfl (dj := 44) rfl g81 (t_call (r05_parser_is_w hy82) hT (.same rfl (.same rfl .nil)) (.cons .here (.cons .here (.cons .here (.cons .here .nil)))) (fun R H' hR => ?_))
                  obtain ⟨t83, t84, v85, rfl, rfl⟩ := hR
                  refine op_cons rfl (OpV.t (v_pick_t rfl g81 rfl) ?_)
                  exact hJ80 _ (t83, t84, v85) h _ (join_imp 3 rfl rfl (mod_cons (j := 47) rfl (fun _ _ h => h) mod_nil) (.cons .here (.cons .here (.cons .here (.cons .here (.cons .here (.cons .here (.cons .here .nil))))))))
                · skip
                  refine op_pass rfl (dj := 44) rfl g81 ?_
                  refine op_pass rfl (dj := 44) rfl g81 ?_
                  refine op_cons rfl (OpV.t (v_pick_f rfl g81 rfl) ?_)
                  exact hJ80 _ (g72.1, g72.2.1, g72.2.2) h _ (join_imp 3 rfl rfl (mod_cons (j := 47) rfl (fun _ _ h => h) mod_nil) (.cons .here (.cons .here (.cons .here (.cons .here (.cons .here (.cons .here (.cons .here .nil))))))))
          · skip
            refine rl_condM (j := 24) h rfl (fun g74 h => ?_) (fun g74 h => ?_)
            · skip
              refine op_take rfl rfl (dj := 24) rfl g74 (OpV.t (v_move rfl) ?_)
              refine cal_inv h fun y75 hy75 h => ?_
              refine op_take rfl rfl (dj := 24) rfl g74 (t_call (r05_parser_is_w hy75) hT (.same rfl (.same rfl .nil)) (.cons .here (.cons .here (.cons .here (.cons .here .nil)))) (fun R H' hR => ?_))
              obtain ⟨t76, t77, v78, rfl, rfl⟩ := hR
              refine op_cons rfl (OpV.t (v_pick_t rfl g74 rfl) ?_)
              exact hJ73 _ (t76, t77, v78) h _ (join_imp 3 rfl rfl (mod_cons (j := 27) rfl (fun _ _ h => h) mod_nil) (.cons .here (.cons .here (.cons .here (.cons .here (.cons .here (.cons .here (.cons .here .nil))))))))
            · skip
              refine op_pass rfl (dj := 24) rfl g74 ?_
              refine op_pass rfl (dj := 24) rfl g74 ?_
              refine op_cons rfl (OpV.t (v_pick_f rfl g74 rfl) ?_)
              exact hJ73 _ (g12.1, g12.2.1, g12.2.2.1) h _ (join_imp 3 rfl rfl (mod_cons (j := 27) rfl (fun _ _ h => h) mod_nil) (.cons .here (.cons .here (.cons .here (.cons .here (.cons .here (.cons .here (.cons .here .nil))))))))
      · skip
        refine w_exit ?_
        refine exi_nxt ?_
        refine eL13 _ _ ?_
        refine exi_block ?_
        exact hJ11 _ (g12.1, g12.2.1, g12.2.2.1, g12.2.2.2.1, g12.2.2.2.2) h _ (join_imp 6 rfl rfl (mod_cons (j := 6) rfl (fun _ _ _ => trivial) mod_nil) (.cons .here (.cons .here (.cons .here (.cons .here (.cons .here (.cons .here (.cons .here .nil))))))))

theorem r05_parser_field_grp_w : ∀ n, r05_parser_field_C (r05_parser_field n) ∧ r05_parser_typ_C (r05_parser_typ n) ∧ r05_parser_base_C (r05_parser_base n) ∧ r05_parser_fields_C (r05_parser_fields n)
  | 0 => ⟨fun h => (by cases h), fun h => (by cases h), fun h => (by cases h), fun h => (by cases h)⟩
  | n + 1 => by
    obtain ⟨h0, h1, h2, h3⟩ := r05_parser_field_grp_w n
    exact ⟨r05_parser_field_w0 h0 h1 h2 h3, r05_parser_typ_w0 h0 h1 h2 h3, r05_parser_base_w0 h0 h1 h2 h3, r05_parser_fields_w0 h0 h1 h2 h3⟩
theorem r05_parser_field_w (n : Nat) : r05_parser_field_C (r05_parser_field n) := (r05_parser_field_grp_w n).1
theorem r05_parser_typ_w (n : Nat) : r05_parser_typ_C (r05_parser_typ n) := (r05_parser_field_grp_w n).2.1
theorem r05_parser_base_w (n : Nat) : r05_parser_base_C (r05_parser_base n) := (r05_parser_field_grp_w n).2.2.1
theorem r05_parser_fields_w (n : Nat) : r05_parser_fields_C (r05_parser_fields n) := (r05_parser_field_grp_w n).2.2.2
end Go.Proofs.YtdcdndflfhaejaaDoor
