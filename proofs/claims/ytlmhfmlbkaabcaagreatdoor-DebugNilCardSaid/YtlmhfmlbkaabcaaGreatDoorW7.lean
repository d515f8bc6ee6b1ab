/- Cuts of the law of works, a part: calls with their answers written out. No condition. -/
import Derived.Test.YtlmhfmlbkaabcaaGreatDoorW0
import Derived.Test.YtlmhfmlbkaabcaaGreatDoorW6
import Derived.KernelRfl
set_option linter.all false
set_option linter.unusedVariables false
set_option linter.unusedSimpArgs false
namespace Go.Proofs
open Go Go.Ab
set_option maxRecDepth 1000000
set_option maxHeartbeats 0
noncomputable section
namespace W27
def K14 : FuncId → List AV → H → RF := maskK 99382111338501401033998997892121059601851577532416 (firstK [cloneK 162, rowK 166, cutF c13 [0, 1, 2, 3, 4, 5, 6, 7, 8, 9, 10, 11, 12, 13, 14, 15, 16, 17, 18, 19, 20, 21, 22, 23, 24, 25, 26, 27, 28, 29, 30, 31, 32, 33, 34, 35, 36, 37, 38, 39, 40, 41, 42, 43, 44, 45, 46, 47, 48, 49, 50, 51, 52, 53, 54, 55, 56, 57, 58, 59, 60, 61, 62, 63, 64]])
theorem K14_ok : FSound Tryz.prog (fun _ => none) K14 := maskK_ok (fcons Tryz.clone_ok (fcons Tryz.row_ok (fcons (Tryz.use c13_ok _) fnil)))
theorem c14_p : c14.proves [911, 923, 933, 939, 956, 963, 970, 972, 974, 976, 978, 983, 988, 993, 995] (Tryz.mach K14 3000).f = true := by kernel_rfl
theorem c14_ok : Tryz.cOk c14 := Tryz.cut K14_ok c14 _ c14_p
end W27
end
end Go.Proofs
