/- Facts of the tables. -/
import Derived.Test.YtlngkmmajaaloaaLib15
import Derived.Test.YtlngkmmajaaloaaProg
import Derived.KernelRfl
namespace Go.Proofs.Ytlngkmmajaaloaa
open Go.Sy
theorem fd26_0 : FldB Try.prog 26 0 0 1 false = true := by kernel_rfl
theorem ty3 : TyB Try.prog 3 1 false = true := by kernel_rfl
theorem fd26_1 : FldB Try.prog 26 1 1 1 false = true := by kernel_rfl
theorem ze26 : ZeroOk Try.prog 26 (Tag.zero : Tag) := Tag.zeroOk (by kernel_rfl)
theorem bu26 : BuildB Try.prog 26 = true := by kernel_rfl
theorem ty26 : TyB Try.prog 26 2 true = true := by kernel_rfl
theorem eq26 : EqOk Try.prog 26 Tag := Tag.eqOk Try.underlying26 (by kernel_rfl) (by kernel_rfl) Try.underlying3
theorem sl22 : SlB Try.prog 22 2 true = true := by kernel_rfl
theorem moOrd : Try.prog.follows .mixedOrders = true := by kernel_rfl
theorem el22 : elB Try.prog 22 2 = true := by kernel_rfl
theorem sl43 : SlB Try.prog 43 1 false = true := by kernel_rfl
theorem ty22 : TyB Try.prog 22 1 false = true := by kernel_rfl
theorem ap22_22 : appB Try.prog 22 22 2 = true := by kernel_rfl
theorem el43 : elB Try.prog 43 1 = true := by kernel_rfl
theorem el34 : elB Try.prog 34 1 = true := by kernel_rfl
theorem sl34 : SlB Try.prog 34 1 false = true := by kernel_rfl
theorem ty4 : TyB Try.prog 4 1 false = true := by kernel_rfl
theorem ze3 : ZeroOk Try.prog 3 (0 : Int) := ZeroOk.of (z := .int .i64 0) (by kernel_rfl) fun _ => isv_int.2 ⟨rfl, in_mk (by omega) (by omega)⟩
theorem key26 : KeyOk Try.prog 26 Tag := KeyOk.tag Try.underlying26 (by kernel_rfl) Try.underlying3
theorem eq4 : EqOk Try.prog 4 Bool := EqOk.bool Try.underlying4
theorem sl33 : SlB Try.prog 33 1 false = true := by kernel_rfl
end Go.Proofs.Ytlngkmmajaaloaa
