/- Cuts of the law of works, a part: calls with their answers written out. No condition. -/
import Derived.Test.YtlmhfmlbkaabcaaGreatDoorW0
import Derived.Test.YtlmhfmlbkaabcaaGreatDoorW1
import Derived.KernelRfl
set_option linter.all false
set_option linter.unusedVariables false
set_option linter.unusedSimpArgs false
namespace Go.Proofs
open Go Go.Ab
set_option maxRecDepth 1000000
set_option maxHeartbeats 0
noncomputable section
namespace W27
def K1 : FuncId → List AV → H → RF := maskK 99382111338501398437851806564746530716878312046592 (firstK [cloneK 162, rowK 166, cutF c0 [0, 1, 2, 3, 4, 5, 6, 7, 8]])
theorem K1_ok : FSound Tryz.prog (fun _ => none) K1 := maskK_ok (fcons Tryz.clone_ok (fcons Tryz.row_ok (fcons (Tryz.use c0_ok _) fnil)))
theorem c1_p : c1.proves [26, 28, 29, 30, 31, 32, 1176, 1209, 1259, 1270, 1272] (Tryz.mach K1 3000).f = true := by kernel_rfl
theorem c1_ok : Tryz.cOk c1 := Tryz.cut K1_ok c1 _ c1_p
end W27
end
end Go.Proofs
