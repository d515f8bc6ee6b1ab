/- Cuts of the law of works, a part: calls with their answers written out. No condition. -/
import Derived.Test.YtlmhfmlbkaabcaaGreatDoorW0
import Derived.KernelRfl
set_option linter.all false
set_option linter.unusedVariables false
set_option linter.unusedSimpArgs false
namespace Go.Proofs
open Go Go.Ab
set_option maxRecDepth 1000000
set_option maxHeartbeats 0
noncomputable section
namespace W27
def K30 : FuncId → List AV → H → RF := maskK 99382111338501398437850568624707245336603412922368 (firstK [cloneK 162, rowK 166])
theorem K30_ok : FSound Tryz.prog (fun _ => none) K30 := maskK_ok (fcons Tryz.clone_ok (fcons Tryz.row_ok fnil))
theorem c30_p : c30.proves [124, 125] (Tryz.mach K30 3000).f = true := by kernel_rfl
theorem c30_ok : Tryz.cOk c30 := Tryz.cut K30_ok c30 _ c30_p
def K31 : FuncId → List AV → H → RF := maskK 99382111338501398437850568624707245336603412922368 (firstK [cloneK 162, rowK 166])
theorem K31_ok : FSound Tryz.prog (fun _ => none) K31 := maskK_ok (fcons Tryz.clone_ok (fcons Tryz.row_ok fnil))
theorem c31_p : c31.proves [97] (Tryz.mach K31 3000).f = true := by kernel_rfl
theorem c31_ok : Tryz.cOk c31 := Tryz.cut K31_ok c31 _ c31_p
def K32 : FuncId → List AV → H → RF := maskK 99382111338501398437850568624707245336603412922368 (firstK [cloneK 162, rowK 166])
theorem K32_ok : FSound Tryz.prog (fun _ => none) K32 := maskK_ok (fcons Tryz.clone_ok (fcons Tryz.row_ok fnil))
theorem c32_p : c32.proves [] (Tryz.mach K32 3000).f = true := by kernel_rfl
theorem c32_ok : Tryz.cOk c32 := Tryz.cut K32_ok c32 _ c32_p
def K33 : FuncId → List AV → H → RF := maskK 99382111338501398437850568624707245336603412922368 (firstK [cloneK 162, rowK 166])
theorem K33_ok : FSound Tryz.prog (fun _ => none) K33 := maskK_ok (fcons Tryz.clone_ok (fcons Tryz.row_ok fnil))
theorem c33_p : c33.proves [] (Tryz.mach K33 3000).f = true := by kernel_rfl
theorem c33_ok : Tryz.cOk c33 := Tryz.cut K33_ok c33 _ c33_p
def K34 : FuncId → List AV → H → RF := maskK 99382111338501398437850568624707245336603412922368 (firstK [cloneK 162, rowK 166])
theorem K34_ok : FSound Tryz.prog (fun _ => none) K34 := maskK_ok (fcons Tryz.clone_ok (fcons Tryz.row_ok fnil))
theorem c34_p : c34.proves [] (Tryz.mach K34 3000).f = true := by kernel_rfl
theorem c34_ok : Tryz.cOk c34 := Tryz.cut K34_ok c34 _ c34_p
def K35 : FuncId → List AV → H → RF := maskK 99382111338501398437850568624707245336603412922368 (firstK [cloneK 162, rowK 166])
theorem K35_ok : FSound Tryz.prog (fun _ => none) K35 := maskK_ok (fcons Tryz.clone_ok (fcons Tryz.row_ok fnil))
theorem c35_p : c35.proves [] (Tryz.mach K35 3000).f = true := by kernel_rfl
theorem c35_ok : Tryz.cOk c35 := Tryz.cut K35_ok c35 _ c35_p
def K36 : FuncId → List AV → H → RF := maskK 99382111338501398437850568624707245336603412922368 (firstK [cloneK 162, rowK 166])
theorem K36_ok : FSound Tryz.prog (fun _ => none) K36 := maskK_ok (fcons Tryz.clone_ok (fcons Tryz.row_ok fnil))
theorem c36_p : c36.proves [] (Tryz.mach K36 3000).f = true := by kernel_rfl
theorem c36_ok : Tryz.cOk c36 := Tryz.cut K36_ok c36 _ c36_p
def K37 : FuncId → List AV → H → RF := maskK 99382111338501398437850568624707245336603412922368 (firstK [cloneK 162, rowK 166])
theorem K37_ok : FSound Tryz.prog (fun _ => none) K37 := maskK_ok (fcons Tryz.clone_ok (fcons Tryz.row_ok fnil))
theorem c37_p : c37.proves [] (Tryz.mach K37 3000).f = true := by kernel_rfl
theorem c37_ok : Tryz.cOk c37 := Tryz.cut K37_ok c37 _ c37_p
def K38 : FuncId → List AV → H → RF := maskK 99382111338501398437850568624707245336603412922368 (firstK [cloneK 162, rowK 166])
theorem K38_ok : FSound Tryz.prog (fun _ => none) K38 := maskK_ok (fcons Tryz.clone_ok (fcons Tryz.row_ok fnil))
theorem c38_p : c38.proves [] (Tryz.mach K38 3000).f = true := by kernel_rfl
theorem c38_ok : Tryz.cOk c38 := Tryz.cut K38_ok c38 _ c38_p
end W27
end
end Go.Proofs
