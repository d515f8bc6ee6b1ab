/- Cuts of the law of works, a part: calls with their answers written out. No condition. -/
import Derived.Test.YtlmhfmlbkaabcaaGreatDoorW0
import Derived.Test.YtlmhfmlbkaabcaaGreatDoorW2
import Derived.Test.YtlmhfmlbkaabcaaGreatDoorW8
import Derived.KernelRfl
set_option linter.all false
set_option linter.unusedVariables false
set_option linter.unusedSimpArgs false
namespace Go.Proofs
open Go Go.Ab
set_option maxRecDepth 1000000
set_option maxHeartbeats 0
noncomputable section
namespace W27
def K16 : FuncId → List AV → H → RF := maskK 99382111338501398437850568624707249840203048681472 (firstK [cloneK 162, rowK 166, cutF c1 [0, 1, 2, 3, 4, 5, 6, 7, 8], cutF c15 [299, 300, 301, 302, 303, 304, 305, 306, 307, 308, 309]])
theorem K16_ok : FSound Tryz.prog (fun _ => none) K16 := maskK_ok (fcons Tryz.clone_ok (fcons Tryz.row_ok (fcons (Tryz.use c1_ok _) (fcons (Tryz.use c15_ok _) fnil))))
theorem c16_p : c16.proves [311, 312, 313, 314, 315, 316, 317, 318, 319, 320, 321, 322, 323, 324, 325, 337, 351, 355, 365, 389, 396, 403, 416, 426, 428, 451, 458, 463, 468, 471] (Tryz.mach K16 3000).f = true := by kernel_rfl
theorem c16_ok : Tryz.cOk c16 := Tryz.cut K16_ok c16 _ c16_p
def K17 : FuncId → List AV → H → RF := maskK 99382111338501398437850568624707245336603412922368 (firstK [cloneK 162, rowK 166])
theorem K17_ok : FSound Tryz.prog (fun _ => none) K17 := maskK_ok (fcons Tryz.clone_ok (fcons Tryz.row_ok fnil))
theorem c17_p : c17.proves [] (Tryz.mach K17 3000).f = true := by kernel_rfl
theorem c17_ok : Tryz.cOk c17 := Tryz.cut K17_ok c17 _ c17_p
def K18 : FuncId → List AV → H → RF := maskK 99382111338501398437850568624707245336603412922368 (firstK [cloneK 162, rowK 166])
theorem K18_ok : FSound Tryz.prog (fun _ => none) K18 := maskK_ok (fcons Tryz.clone_ok (fcons Tryz.row_ok fnil))
theorem c18_p : c18.proves [] (Tryz.mach K18 3000).f = true := by kernel_rfl
theorem c18_ok : Tryz.cOk c18 := Tryz.cut K18_ok c18 _ c18_p
def K19 : FuncId → List AV → H → RF := maskK 99382111338501398437850568624707245336603412922368 (firstK [cloneK 162, rowK 166])
theorem K19_ok : FSound Tryz.prog (fun _ => none) K19 := maskK_ok (fcons Tryz.clone_ok (fcons Tryz.row_ok fnil))
theorem c19_p : c19.proves [] (Tryz.mach K19 3000).f = true := by kernel_rfl
theorem c19_ok : Tryz.cOk c19 := Tryz.cut K19_ok c19 _ c19_p
def K20 : FuncId → List AV → H → RF := maskK 99382111338501398437850568624707245336603412922368 (firstK [cloneK 162, rowK 166])
theorem K20_ok : FSound Tryz.prog (fun _ => none) K20 := maskK_ok (fcons Tryz.clone_ok (fcons Tryz.row_ok fnil))
theorem c20_p : c20.proves [] (Tryz.mach K20 3000).f = true := by kernel_rfl
theorem c20_ok : Tryz.cOk c20 := Tryz.cut K20_ok c20 _ c20_p
def K21 : FuncId → List AV → H → RF := maskK 99382111338501398437850568624707245336603412922368 (firstK [cloneK 162, rowK 166])
theorem K21_ok : FSound Tryz.prog (fun _ => none) K21 := maskK_ok (fcons Tryz.clone_ok (fcons Tryz.row_ok fnil))
theorem c21_p : c21.proves [] (Tryz.mach K21 3000).f = true := by kernel_rfl
theorem c21_ok : Tryz.cOk c21 := Tryz.cut K21_ok c21 _ c21_p
def K22 : FuncId → List AV → H → RF := maskK 99382111338501398437850568624707245336603412922368 (firstK [cloneK 162, rowK 166])
theorem K22_ok : FSound Tryz.prog (fun _ => none) K22 := maskK_ok (fcons Tryz.clone_ok (fcons Tryz.row_ok fnil))
theorem c22_p : c22.proves [] (Tryz.mach K22 3000).f = true := by kernel_rfl
theorem c22_ok : Tryz.cOk c22 := Tryz.cut K22_ok c22 _ c22_p
end W27
end
end Go.Proofs
