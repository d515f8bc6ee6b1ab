/- Cuts of the law of works, a part: calls with their answers written out. No condition. -/
import Derived.Test.YtlmhfmlbkaabcaaGreatDoorW0
import Derived.Test.YtlmhfmlbkaabcaaGreatDoorW3
import Derived.KernelRfl
set_option linter.all false
set_option linter.unusedVariables false
set_option linter.unusedSimpArgs false
namespace Go.Proofs
open Go Go.Ab
set_option maxRecDepth 1000000
set_option maxHeartbeats 0
noncomputable section
namespace W27
def K5 : FuncId → List AV → H → RF := maskK 102305114613163204274257938290139811375915278008320 (firstK [cloneK 162, rowK 166, cutF c2 [625], cutF c3 [625, 666], cutF c4 [616, 666], cutF c3 [666, 694], cutF c3 [666, 730], cutF c3 [625, 771], cutF c4 [616, 771], cutF c3 [666, 799]])
theorem K5_ok : FSound Tryz.prog (fun _ => none) K5 := maskK_ok (fcons Tryz.clone_ok (fcons Tryz.row_ok (fcons (Tryz.use c2_ok _) (fcons (Tryz.use c3_ok _) (fcons (Tryz.use c4_ok _) (fcons (Tryz.use c3_ok _) (fcons (Tryz.use c3_ok _) (fcons (Tryz.use c3_ok _) (fcons (Tryz.use c4_ok _) (fcons (Tryz.use c3_ok _) fnil))))))))))
theorem c5_p : c5.proves [] (Tryz.mach K5 3000).f = true := by kernel_rfl
theorem c5_ok : Tryz.cOk c5 := Tryz.cut K5_ok c5 _ c5_p
end W27
end
end Go.Proofs
