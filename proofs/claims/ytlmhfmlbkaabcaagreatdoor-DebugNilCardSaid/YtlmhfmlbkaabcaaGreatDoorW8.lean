/- Cuts of the law of works, a part: calls with their answers written out. No condition. -/
import Derived.Test.YtlmhfmlbkaabcaaGreatDoorW0
import Derived.Test.YtlmhfmlbkaabcaaGreatDoorW3
import Derived.Test.YtlmhfmlbkaabcaaGreatDoorW4
import Derived.Test.YtlmhfmlbkaabcaaGreatDoorW5
import Derived.Test.YtlmhfmlbkaabcaaGreatDoorW7
import Derived.KernelRfl
set_option linter.all false
set_option linter.unusedVariables false
set_option linter.unusedSimpArgs false
namespace Go.Proofs
open Go Go.Ab
set_option maxRecDepth 1000000
set_option maxHeartbeats 0
noncomputable section
namespace W27
def K15 : FuncId → List AV → H → RF := maskK 102305114613163204275525588890371517556324311236608 (firstK [cloneK 162, rowK 166, cutF c5 [0, 1, 2, 3, 4, 5, 6, 7, 8, 9, 10], cutF c2 [49], cutF c3 [49, 89], cutF c4 [40, 89], cutF c3 [89, 116], cutF c3 [89, 151], cutF c3 [49, 191], cutF c4 [40, 191], cutF c3 [89, 218], cutF c6 [0, 6, 7, 8, 9, 33, 34, 35, 36, 371, 372, 376, 455, 478], cutF c7 [0, 6, 7, 8, 9, 33, 34, 35, 36, 371, 372, 376, 455, 478], cutF c8 [0, 6, 7, 8, 9, 33, 34, 35, 36, 371, 372, 376, 455, 478], cutF c9 [0, 6, 7, 8, 9, 33, 34, 35, 36, 371, 372, 376, 455, 478], cutF c10 [0, 6, 7, 8, 9, 33, 34, 35, 36, 371, 372, 376, 455, 478], cutF c11 [0, 6, 7, 8, 9, 33, 34, 35, 36, 371, 372, 376, 455, 478], cutF c12 [0, 1, 2, 3, 4, 5, 6, 7, 8, 9, 10, 11, 13, 14, 18, 19, 20, 22, 28, 478, 481, 482, 485, 496, 507, 517, 521, 523, 622, 624], cutF c14 [0, 1, 2, 3, 4, 5, 6, 7, 8, 9, 10, 11, 13, 14, 18, 19, 20, 478, 481, 482, 485, 496, 507, 517, 521, 523, 622, 624, 625, 626, 627, 628, 629, 630, 631, 632, 633, 634, 635, 636, 637, 638, 639, 640, 641, 642, 643, 644, 645, 646, 647, 648, 649, 650, 651, 652, 653, 654, 655, 656, 657, 658, 659, 660, 661, 663]])
theorem K15_ok : FSound Tryz.prog (fun _ => none) K15 := maskK_ok (fcons Tryz.clone_ok (fcons Tryz.row_ok (fcons (Tryz.use c5_ok _) (fcons (Tryz.use c2_ok _) (fcons (Tryz.use c3_ok _) (fcons (Tryz.use c4_ok _) (fcons (Tryz.use c3_ok _) (fcons (Tryz.use c3_ok _) (fcons (Tryz.use c3_ok _) (fcons (Tryz.use c4_ok _) (fcons (Tryz.use c3_ok _) (fcons (Tryz.use c6_ok _) (fcons (Tryz.use c7_ok _) (fcons (Tryz.use c8_ok _) (fcons (Tryz.use c9_ok _) (fcons (Tryz.use c10_ok _) (fcons (Tryz.use c11_ok _) (fcons (Tryz.use c12_ok _) (fcons (Tryz.use c14_ok _) fnil)))))))))))))))))))
theorem c15_p : c15.proves [664, 665, 666, 667, 668, 669, 670, 671, 672, 673, 674, 675, 676, 677, 678] (Tryz.mach K15 3000).f = true := by kernel_rfl
theorem c15_ok : Tryz.cOk c15 := Tryz.cut K15_ok c15 _ c15_p
end W27
end
end Go.Proofs
