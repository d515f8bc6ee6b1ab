/- Cuts of the law of works, a part: calls with their answers written out. No condition. -/
import Derived.Test.YtlmhfmlbkaabcaaGreatDoorW0
import Derived.Test.YtlmhfmlbkaabcaaGreatDoorW9
import Derived.Test.YtlmhfmlbkaabcaaGreatDoorW10
import Derived.Test.YtlmhfmlbkaabcaaGreatDoorW11
import Derived.Test.YtlmhfmlbkaabcaaGreatDoorW12
import Derived.Test.YtlmhfmlbkaabcaaGreatDoorW18
import Derived.Test.YtlmhfmlbkaabcaaGreatDoorW20
import Derived.Test.YtlmhfmlbkaabcaaGreatDoorW21
import Derived.KernelRfl
set_option linter.all false
set_option linter.unusedVariables false
set_option linter.unusedSimpArgs false
namespace Go.Proofs
open Go Go.Ab
set_option maxRecDepth 1000000
set_option maxHeartbeats 0
noncomputable section
namespace W27
def K78 : FuncId → List AV → H → RF := maskK 99382111338501398437850568624707245336603412922944 (firstK [cloneK 162, rowK 166, cutF c16 [2, 8, 9, 10, 12, 18, 19, 20, 21], cutF c17 [91, 93, 94, 98, 100, 109, 112, 118, 125, 132, 134, 136, 138, 140, 145, 150, 155, 157, 158, 159], cutF c29 [91, 93, 94, 98, 100, 109, 112, 118, 125, 132, 134, 136, 138, 140, 145, 150, 155, 157, 158, 159], cutF c30 [91, 93, 94, 98, 100, 109, 112, 118, 125, 132, 134, 136, 138, 140, 145, 150, 155, 157, 158, 159], cutF c31 [91, 93, 94, 98, 100, 109, 112, 118, 125, 132, 134, 136, 138, 140, 145, 150, 155, 157, 158, 159], cutF c39 [91, 93, 94, 98, 100, 109, 112, 118, 125, 132, 134, 136, 138, 140, 145, 150, 155, 157, 158, 159], cutF c51 [172, 178, 179, 180, 182, 188, 189, 190, 191], cutF c52 [279, 281, 282, 286, 288, 297, 300, 306, 313, 320, 322, 324, 326, 328, 333, 338, 343, 345, 346, 347], cutF c66 [279, 281, 282, 286, 288, 297, 300, 306, 313, 320, 322, 324, 326, 328, 333, 338, 343, 345, 346, 347], cutF c67 [279, 281, 282, 286, 288, 297, 300, 306, 313, 320, 322, 324, 326, 328, 333, 338, 343, 345, 346, 347], cutF c68 [279, 281, 282, 286, 288, 297, 300, 306, 313, 320, 322, 324, 326, 328, 333, 338, 343, 345, 346, 347], cutF c77 [279, 281, 282, 286, 288, 297, 300, 306, 313, 320, 322, 324, 326, 328, 333, 338, 343, 345, 346, 347]])
theorem K78_ok : FSound Tryz.prog (fun _ => none) K78 := maskK_ok (fcons Tryz.clone_ok (fcons Tryz.row_ok (fcons (Tryz.use c16_ok _) (fcons (Tryz.use c17_ok _) (fcons (Tryz.use c29_ok _) (fcons (Tryz.use c30_ok _) (fcons (Tryz.use c31_ok _) (fcons (Tryz.use c39_ok _) (fcons (Tryz.use c51_ok _) (fcons (Tryz.use c52_ok _) (fcons (Tryz.use c66_ok _) (fcons (Tryz.use c67_ok _) (fcons (Tryz.use c68_ok _) (fcons (Tryz.use c77_ok _) fnil))))))))))))))
theorem c78_p : c78.proves [] (Tryz.mach K78 3000).f = true := by kernel_rfl
theorem c78_ok : Tryz.cOk c78 := Tryz.cut K78_ok c78 _ c78_p
end W27
end
end Go.Proofs
