/- Cuts of the law of works, a part: calls with their answers written out. No condition. -/
import Derived.Test.YtlmhfmlbkaabcaaGreatDoorW0
import Derived.KernelRfl
set_option linter.all false
set_option linter.unusedVariables false
set_option linter.unusedSimpArgs false
namespace Go.Proofs
open Go Go.Ab
set_option maxRecDepth 1000000
set_option maxHeartbeats 0
noncomputable section
namespace W27
def K48 : FuncId → List AV → H → RF := maskK 99382111338501398437850568624707245336603412922368 (firstK [cloneK 162, rowK 166])
theorem K48_ok : FSound Tryz.prog (fun _ => none) K48 := maskK_ok (fcons Tryz.clone_ok (fcons Tryz.row_ok fnil))
theorem c48_p : c48.proves [1087] (Tryz.mach K48 3000).f = true := by kernel_rfl
theorem c48_ok : Tryz.cOk c48 := Tryz.cut K48_ok c48 _ c48_p
end W27
end
end Go.Proofs
