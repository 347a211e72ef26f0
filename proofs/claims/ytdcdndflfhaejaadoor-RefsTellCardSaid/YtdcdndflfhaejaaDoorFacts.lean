/- Facts of the tables. -/
import Derived.Test.YtdcdndflfhaejaaDoorMod
import Derived.Test.YtdcdndflfhaejaaDoorProg
import Derived.KernelRfl
import Derived.Test.YtdcdndflfhaejaaDoorGivenW
namespace Go.Proofs.YtdcdndflfhaejaaDoor
open Go.Sy
set_option maxRecDepth 4000
@[reducible] def pt49_0_0 : Fld ((List GTok) × Int × (Str × Int × (TList Str) × (TList Int) × Vh) × Int × Int) (List GTok) := pf0
@[reducible] def pt49_0_1 : Fld ((List GTok) × Int × (Str × Int × (TList Str) × (TList Int) × Vh) × Int × Int) Int := pf1
@[reducible] def pt49_0_3 : Fld ((List GTok) × Int × (Str × Int × (TList Str) × (TList Int) × Vh) × Int × Int) Int := pf3
@[reducible] def pt49_0_4 : Fld ((List GTok) × Int × (Str × Int × (TList Str) × (TList Int) × Vh) × Int × Int) Int := pl4
@[reducible] def pt49_0_2 : Fld ((List GTok) × Int × (Str × Int × (TList Str) × (TList Int) × Vh) × Int × Int) (Str × Int × (TList Str) × (TList Int) × Vh) := pf2
@[reducible] def pt26_0_0 : Fld (Str × Int × (TList Str) × (TList Int) × Vh) Str := pf0
@[reducible] def pt26_0_1 : Fld (Str × Int × (TList Str) × (TList Int) × Vh) Int := pf1
@[reducible] def pt26_0_2 : Fld (Str × Int × (TList Str) × (TList Int) × Vh) (TList Str) := pf2
@[reducible] def pt26_0_4 : Fld (Str × Int × (TList Str) × (TList Int) × Vh) Vh := pl4
@[reducible] def pt83_0_2 : Fld (Int × Str × GMark × GCon × (TList GItem) × (TList GFld) × Int × Bool × Int) GMark := pf2
@[reducible] def pt83_0_0 : Fld (Int × Str × GMark × GCon × (TList GItem) × (TList GFld) × Int × Bool × Int) Int := pf0
@[reducible] def pt83_0_3 : Fld (Int × Str × GMark × GCon × (TList GItem) × (TList GFld) × Int × Bool × Int) GCon := pf3
@[reducible] def pt83_0_4 : Fld (Int × Str × GMark × GCon × (TList GItem) × (TList GFld) × Int × Bool × Int) (TList GItem) := pf4
@[reducible] def pt83_0_7 : Fld (Int × Str × GMark × GCon × (TList GItem) × (TList GFld) × Int × Bool × Int) Bool := pf7
@[reducible] def pt83_0_6 : Fld (Int × Str × GMark × GCon × (TList GItem) × (TList GFld) × Int × Bool × Int) Int := pf6
@[reducible] def pt83_0_5 : Fld (Int × Str × GMark × GCon × (TList GItem) × (TList GFld) × Int × Bool × Int) (TList GFld) := pf5
@[reducible] def pt83_0_8 : Fld (Int × Str × GMark × GCon × (TList GItem) × (TList GFld) × Int × Bool × Int) Int := pl8
@[reducible] def pt83_0_1 : Fld (Int × Str × GMark × GCon × (TList GItem) × (TList GFld) × Int × Bool × Int) Str := pf1
@[reducible] def pt26_0_3 : Fld (Str × Int × (TList Str) × (TList Int) × Vh) (TList Int) := pf3
@[reducible] def pt49_1_2 : Fld ((List GTok) × Int × (Str × Int × (TList Str) × (TList Int) × (List GNode)) × Int × Int) (Str × Int × (TList Str) × (TList Int) × (List GNode)) := pf2
theorem ze26 : ZeroOk Tryd.prog 26 ((GMod.mk (Str.mk []) (0 : Int) ([] : (List Str)) ([] : (List Int)) ([] : (List GNode))) : GMod) := zero_agg (cs := [.string ⟨#[]⟩, .int .i64 0, .slice none 0 0, .slice none 0 0, .slice none 0 0]) rfl (by kernel_rfl) (zr_pair zr_str (zr_pair zr_int (zr_pair zr_list (zr_pair zr_list zr_list))))
theorem st9 : StrB Tryd.prog 9 = true := by kernel_rfl
theorem eq5 : EqOk Tryd.prog 5 UInt8 := EqOk.u8
theorem fd53_2 : FldB Tryd.prog 53 2 2 1 false = true := by kernel_rfl
theorem bu53 : BuildB Tryd.prog 53 = true := by kernel_rfl
theorem ze53 : ZeroOk Tryd.prog 53 ((GTok.mk (0 : Int) (Str.mk []) (0 : Int)) : GTok) := zero_agg (cs := [.int .i64 0, .string ⟨#[]⟩, .int .i64 0]) rfl (by kernel_rfl) (zr_pair zr_int (zr_pair zr_str zr_int))
theorem el44 : elB Tryd.prog 44 3 = true := by kernel_rfl
theorem ap44_44 : appB Tryd.prog 44 44 3 = true := by kernel_rfl
theorem ty53 : TyB Tryd.prog 53 3 true = true := by kernel_rfl
theorem moOrd : Tryd.prog.follows .mixedOrders = true := by kernel_rfl
theorem fd53_0 : FldB Tryd.prog 53 0 0 1 false = true := by kernel_rfl
theorem ty3 : TyB Tryd.prog 3 1 false = true := by kernel_rfl
theorem fd53_1 : FldB Tryd.prog 53 1 1 1 false = true := by kernel_rfl
theorem ty9 : TyB Tryd.prog 9 1 false = true := by kernel_rfl
theorem el22 : elB Tryd.prog 22 1 = true := by kernel_rfl
theorem sl22 : SlB Tryd.prog 22 1 false = true := by kernel_rfl
theorem eq9 : EqOk Tryd.prog 9 Str := EqOk.str
theorem bu26 : BuildB Tryd.prog 26 = true := by kernel_rfl
theorem ty26 : TyB Tryd.prog 26 5 true = true := by kernel_rfl
theorem fd49_0 : FldB Tryd.prog 49 0 0 1 false = true := by kernel_rfl
theorem bu49 : BuildB Tryd.prog 49 = true := by kernel_rfl
theorem zt49_0 : ZeroOk Tryd.prog 49 ((([] : (List GTok)), (0 : Int), ((Str.mk []), (0 : Int), (TList.mk none ([] : (List Str))), (TList.mk none ([] : (List Int))), (Vh.mk none 0)), (0 : Int), (0 : Int)) : ((List GTok) × Int × (Str × Int × (TList Str) × (TList Int) × Vh) × Int × Int)) := zero_agg (cs := [.slice none 0 0, .int .i64 0, .string ⟨#[]⟩, .int .i64 0, .slice none 0 0, .slice none 0 0, .slice none 0 0, .int .i64 0, .int .i64 0]) rfl (by kernel_rfl) (zr_pair zr_list (zr_pair zr_int (zr_pair (zr_pair zr_str (zr_pair zr_int (zr_pair zr_tl (zr_pair zr_tl zr_vh)))) (zr_pair zr_int zr_int))))
theorem ty44 : TyB Tryd.prog 44 1 false = true := by kernel_rfl
theorem fd49_1 : FldB Tryd.prog 49 1 1 1 false = true := by kernel_rfl
theorem sl44 : SlB Tryd.prog 44 3 true = true := by kernel_rfl
theorem fd49_3 : FldB Tryd.prog 49 3 7 1 false = true := by kernel_rfl
theorem ty27 : TyB Tryd.prog 27 1 false = true := by kernel_rfl
theorem fd49_4 : FldB Tryd.prog 49 4 8 1 false = true := by kernel_rfl
theorem fd49_2 : FldB Tryd.prog 49 2 2 5 true = true := by kernel_rfl
theorem fd26_0 : FldB Tryd.prog 26 0 0 1 false = true := by kernel_rfl
theorem fd26_1 : FldB Tryd.prog 26 1 1 1 false = true := by kernel_rfl
theorem fd26_2 : FldB Tryd.prog 26 2 2 1 false = true := by kernel_rfl
theorem ty22 : TyB Tryd.prog 22 1 false = true := by kernel_rfl
theorem fd26_4 : FldB Tryd.prog 26 4 4 1 false = true := by kernel_rfl
theorem ty24 : TyB Tryd.prog 24 1 false = true := by kernel_rfl
theorem sl24 : SlB Tryd.prog 24 16 true = true := by kernel_rfl
theorem bu83 : BuildB Tryd.prog 83 = true := by kernel_rfl
theorem ze83 : ZeroOk Tryd.prog 83 ((GNode.mk (0 : Int) (Str.mk []) (GMark.mk false (0 : Int) (0 : Int)) (GCon.mk false false false false (0 : Int) (0 : Int)) ([] : (List GItem)) ([] : (List GFld)) (0 : Int) false (0 : Int)) : GNode) := zero_agg (cs := [.int .i64 0, .string ⟨#[]⟩, .bool false, .int .i64 0, .int .i64 0, .bool false, .bool false, .bool false, .bool false, .int .i64 0, .int .i64 0, .slice none 0 0, .slice none 0 0, .int .i64 0, .bool false, .int .i64 0]) rfl (by kernel_rfl) (zr_pair zr_int (zr_pair zr_str (zr_pair (zr_pair zr_bool (zr_pair zr_int zr_int)) (zr_pair (zr_pair zr_bool (zr_pair zr_bool (zr_pair zr_bool (zr_pair zr_bool (zr_pair zr_int zr_int))))) (zr_pair zr_list (zr_pair zr_list (zr_pair zr_int (zr_pair zr_bool zr_int))))))))
theorem el24 : elB Tryd.prog 24 16 = true := by kernel_rfl
theorem ap24_24 : appB Tryd.prog 24 24 16 = true := by kernel_rfl
theorem zt83_1 : ZeroOk Tryd.prog 83 (((0 : Int), (Str.mk []), (GMark.mk false (0 : Int) (0 : Int)), (GCon.mk false false false false (0 : Int) (0 : Int)), (TList.mk none ([] : (List GItem))), (TList.mk none ([] : (List GFld))), (0 : Int), false, (0 : Int)) : (Int × Str × GMark × GCon × (TList GItem) × (TList GFld) × Int × Bool × Int)) := zero_agg (cs := [.int .i64 0, .string ⟨#[]⟩, .bool false, .int .i64 0, .int .i64 0, .bool false, .bool false, .bool false, .bool false, .int .i64 0, .int .i64 0, .slice none 0 0, .slice none 0 0, .int .i64 0, .bool false, .int .i64 0]) rfl (by kernel_rfl) (zr_pair zr_int (zr_pair zr_str (zr_pair (zr_pair zr_bool (zr_pair zr_int zr_int)) (zr_pair (zr_pair zr_bool (zr_pair zr_bool (zr_pair zr_bool (zr_pair zr_bool (zr_pair zr_int zr_int))))) (zr_pair zr_tl (zr_pair zr_tl (zr_pair zr_int (zr_pair zr_bool zr_int))))))))
theorem ty83 : TyB Tryd.prog 83 16 true = true := by kernel_rfl
theorem fd77_1 : FldB Tryd.prog 77 1 1 1 false = true := by kernel_rfl
theorem fd77_0 : FldB Tryd.prog 77 0 0 1 false = true := by kernel_rfl
theorem bu77 : BuildB Tryd.prog 77 = true := by kernel_rfl
theorem ze77 : ZeroOk Tryd.prog 77 ((GMark.mk false (0 : Int) (0 : Int)) : GMark) := zero_agg (cs := [.bool false, .int .i64 0, .int .i64 0]) rfl (by kernel_rfl) (zr_pair zr_bool (zr_pair zr_int zr_int))
theorem fd83_2 : FldB Tryd.prog 83 2 2 3 true = true := by kernel_rfl
theorem ty77 : TyB Tryd.prog 77 3 true = true := by kernel_rfl
theorem fd77_2 : FldB Tryd.prog 77 2 2 1 false = true := by kernel_rfl
theorem fd83_0 : FldB Tryd.prog 83 0 0 1 false = true := by kernel_rfl
theorem ze79 : ZeroOk Tryd.prog 79 ((GCon.mk false false false false (0 : Int) (0 : Int)) : GCon) := zero_agg (cs := [.bool false, .bool false, .bool false, .bool false, .int .i64 0, .int .i64 0]) rfl (by kernel_rfl) (zr_pair zr_bool (zr_pair zr_bool (zr_pair zr_bool (zr_pair zr_bool (zr_pair zr_int zr_int)))))
theorem bu79 : BuildB Tryd.prog 79 = true := by kernel_rfl
theorem ty79 : TyB Tryd.prog 79 6 true = true := by kernel_rfl
theorem fd79_0 : FldB Tryd.prog 79 0 0 1 false = true := by kernel_rfl
theorem fd79_1 : FldB Tryd.prog 79 1 1 1 false = true := by kernel_rfl
theorem ty4 : TyB Tryd.prog 4 1 false = true := by kernel_rfl
theorem fd79_4 : FldB Tryd.prog 79 4 4 1 false = true := by kernel_rfl
theorem ty2 : TyB Tryd.prog 2 1 false = true := by kernel_rfl
theorem fd79_2 : FldB Tryd.prog 79 2 2 1 false = true := by kernel_rfl
theorem fd79_5 : FldB Tryd.prog 79 5 5 1 false = true := by kernel_rfl
theorem fd79_3 : FldB Tryd.prog 79 3 3 1 false = true := by kernel_rfl
theorem fd83_3 : FldB Tryd.prog 83 3 5 6 true = true := by kernel_rfl
theorem fd83_4 : FldB Tryd.prog 83 4 11 1 false = true := by kernel_rfl
theorem ty80 : TyB Tryd.prog 80 1 false = true := by kernel_rfl
theorem sl80 : SlB Tryd.prog 80 3 true = true := by kernel_rfl
theorem fd83_7 : FldB Tryd.prog 83 7 14 1 false = true := by kernel_rfl
theorem fd83_6 : FldB Tryd.prog 83 6 13 1 false = true := by kernel_rfl
theorem fd111_0 : FldB Tryd.prog 111 0 0 1 false = true := by kernel_rfl
theorem bu111 : BuildB Tryd.prog 111 = true := by kernel_rfl
theorem ze111 : ZeroOk Tryd.prog 111 ((GItem.mk (Str.mk []) (0 : Int) false) : GItem) := zero_agg (cs := [.string ⟨#[]⟩, .int .i64 0, .bool false]) rfl (by kernel_rfl) (zr_pair zr_str (zr_pair zr_int zr_bool))
theorem ty111 : TyB Tryd.prog 111 3 true = true := by kernel_rfl
theorem fd111_2 : FldB Tryd.prog 111 2 2 1 false = true := by kernel_rfl
theorem fd111_1 : FldB Tryd.prog 111 1 1 1 false = true := by kernel_rfl
theorem el80 : elB Tryd.prog 80 3 = true := by kernel_rfl
theorem ap80_80 : appB Tryd.prog 80 80 3 = true := by kernel_rfl
theorem fd83_5 : FldB Tryd.prog 83 5 12 1 false = true := by kernel_rfl
theorem ty81 : TyB Tryd.prog 81 1 false = true := by kernel_rfl
theorem sl81 : SlB Tryd.prog 81 11 true = true := by kernel_rfl
theorem fd97_5 : FldB Tryd.prog 97 5 10 1 false = true := by kernel_rfl
theorem fd97_0 : FldB Tryd.prog 97 0 0 1 false = true := by kernel_rfl
theorem bu97 : BuildB Tryd.prog 97 = true := by kernel_rfl
theorem ze97 : ZeroOk Tryd.prog 97 ((GFld.mk (Str.mk []) (0 : Int) false false (Val.mk (0 : Int) (0 : Int) ([] : (List UInt8)) ([] : (List Val)) (0 : Int) ([] : (List Raw))) (0 : Int)) : GFld) := zero_agg (cs := [.string ⟨#[]⟩, .int .i64 0, .bool false, .bool false, .int .i64 0, .int .i64 0, .slice none 0 0, .slice none 0 0, .int .i64 0, .slice none 0 0, .int .i64 0]) rfl (by kernel_rfl) (zr_pair zr_str (zr_pair zr_int (zr_pair zr_bool (zr_pair zr_bool (zr_pair zr_val zr_int)))))
theorem ty97 : TyB Tryd.prog 97 11 true = true := by kernel_rfl
theorem fd97_1 : FldB Tryd.prog 97 1 1 1 false = true := by kernel_rfl
theorem fd97_2 : FldB Tryd.prog 97 2 2 1 false = true := by kernel_rfl
theorem ze95 : ZeroOk Tryd.prog 95 ((Val.mk (0 : Int) (0 : Int) ([] : (List UInt8)) ([] : (List Val)) (0 : Int) ([] : (List Raw))) : Val) := zero_agg (cs := [.int .i64 0, .int .i64 0, .slice none 0 0, .slice none 0 0, .int .i64 0, .slice none 0 0]) rfl (by kernel_rfl) zr_val
theorem fd95_1 : FldB Tryd.prog 95 1 1 1 false = true := by kernel_rfl
theorem fd95_0 : FldB Tryd.prog 95 0 0 1 false = true := by kernel_rfl
theorem bu95 : BuildB Tryd.prog 95 = true := by kernel_rfl
theorem ty95 : TyB Tryd.prog 95 6 true = true := by kernel_rfl
theorem fd95_2 : FldB Tryd.prog 95 2 2 1 false = true := by kernel_rfl
theorem el71 : elB Tryd.prog 71 1 = true := by kernel_rfl
theorem ap71_71 : appB Tryd.prog 71 71 1 = true := by kernel_rfl
theorem fd97_3 : FldB Tryd.prog 97 3 3 1 false = true := by kernel_rfl
theorem fd97_4 : FldB Tryd.prog 97 4 4 6 true = true := by kernel_rfl
theorem el81 : elB Tryd.prog 81 11 = true := by kernel_rfl
theorem ap81_81 : appB Tryd.prog 81 81 11 = true := by kernel_rfl
theorem fd83_8 : FldB Tryd.prog 83 8 15 1 false = true := by kernel_rfl
theorem fd83_1 : FldB Tryd.prog 83 1 1 1 false = true := by kernel_rfl
theorem ap22_22 : appB Tryd.prog 22 22 1 = true := by kernel_rfl
theorem fd26_3 : FldB Tryd.prog 26 3 3 1 false = true := by kernel_rfl
theorem ty23 : TyB Tryd.prog 23 1 false = true := by kernel_rfl
theorem el23 : elB Tryd.prog 23 1 = true := by kernel_rfl
theorem ap23_23 : appB Tryd.prog 23 23 1 = true := by kernel_rfl
theorem sl23 : SlB Tryd.prog 23 1 false = true := by kernel_rfl
theorem zt22_2 : ZeroOk Tryd.prog 22 ((TList.mk none ([] : (List Str))) : (TList Str)) := zero_one (v := .slice none 0 0) rfl (by kernel_rfl) zr_tl
theorem el88 : elB Tryd.prog 88 1 = true := by kernel_rfl
theorem ze4 : ZeroOk Tryd.prog 4 (false : Bool) := zero_one (v := .bool false) rfl (by kernel_rfl) zr_bool
theorem sl88 : SlB Tryd.prog 88 1 false = true := by kernel_rfl
theorem el57 : elB Tryd.prog 57 1 = true := by kernel_rfl
theorem ap57_57 : appB Tryd.prog 57 57 1 = true := by kernel_rfl
theorem sl57 : SlB Tryd.prog 57 1 false = true := by kernel_rfl
theorem zt23_3 : ZeroOk Tryd.prog 23 ((TList.mk none ([] : (List Int))) : (TList Int)) := zero_one (v := .slice none 0 0) rfl (by kernel_rfl) zr_tl
end Go.Proofs.YtdcdndflfhaejaaDoor
