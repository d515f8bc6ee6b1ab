/- Cuts of the law of works, a part: calls with their answers written out. No condition. -/
import Derived.Test.YtlmhfmlbkaabcaaGreatDoorW0
import Derived.Test.YtlmhfmlbkaabcaaGreatDoorW15
import Derived.KernelRfl
set_option linter.all false
set_option linter.unusedVariables false
set_option linter.unusedSimpArgs false
namespace Go.Proofs
open Go Go.Ab
set_option maxRecDepth 1000000
set_option maxHeartbeats 0
noncomputable section
namespace W27
def K49 : FuncId → List AV → H → RF := maskK 99382111338501401033998997892121059601851577532416 (firstK [cloneK 162, rowK 166, cutF c48 [0, 1, 2, 3, 4, 5, 6, 7, 8, 9, 10, 11, 12, 13, 14, 15, 16, 17, 18, 19, 20, 21, 22, 23, 24, 25, 26, 27, 28, 29, 30, 31, 32, 33, 34, 35, 36, 37, 38, 39, 40, 41, 42, 43, 44, 45, 46, 47, 48, 49, 50, 51, 52, 53, 54, 55, 56, 57, 58, 59, 60, 61, 62, 63, 64]])
theorem K49_ok : FSound Tryz.prog (fun _ => none) K49 := maskK_ok (fcons Tryz.clone_ok (fcons Tryz.row_ok (fcons (Tryz.use c48_ok _) fnil)))
theorem c49_p : c49.proves [1061, 1073, 1083, 1089, 1106, 1113, 1120, 1122, 1124, 1126, 1128, 1133, 1138, 1143, 1145] (Tryz.mach K49 3000).f = true := by kernel_rfl
theorem c49_ok : Tryz.cOk c49 := Tryz.cut K49_ok c49 _ c49_p
end W27
end
end Go.Proofs
