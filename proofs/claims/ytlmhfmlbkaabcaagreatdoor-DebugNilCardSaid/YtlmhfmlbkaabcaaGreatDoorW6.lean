/- Cuts of the law of works, a part: calls with their answers written out. No condition. -/
import Derived.Test.YtlmhfmlbkaabcaaGreatDoorW0
import Derived.KernelRfl
set_option linter.all false
set_option linter.unusedVariables false
set_option linter.unusedSimpArgs false
namespace Go.Proofs
open Go Go.Ab
set_option maxRecDepth 1000000
set_option maxHeartbeats 0
noncomputable section
namespace W27
def K13 : FuncId → List AV → H → RF := maskK 99382111338501398437850568624707245336603412922368 (firstK [cloneK 162, rowK 166])
theorem K13_ok : FSound Tryz.prog (fun _ => none) K13 := maskK_ok (fcons Tryz.clone_ok (fcons Tryz.row_ok fnil))
theorem c13_p : c13.proves [934] (Tryz.mach K13 3000).f = true := by kernel_rfl
theorem c13_ok : Tryz.cOk c13 := Tryz.cut K13_ok c13 _ c13_p
end W27
end
end Go.Proofs
