/- Cuts of the law of works, a part: calls with their answers written out. No condition. -/
import Derived.Test.YtlmhfmlbkaabcaaGreatDoorW0
import Derived.Test.YtlmhfmlbkaabcaaGreatDoorW10
import Derived.Test.YtlmhfmlbkaabcaaGreatDoorW11
import Derived.KernelRfl
set_option linter.all false
set_option linter.unusedVariables false
set_option linter.unusedSimpArgs false
namespace Go.Proofs
open Go Go.Ab
set_option maxRecDepth 1000000
set_option maxHeartbeats 0
noncomputable section
namespace W27
def K39 : FuncId → List AV → H → RF := maskK 98079813997528225436332647588188412458844640423163461632 (firstK [cloneK 162, rowK 166, cutF c32 [1], cutF c33 [1], cutF c34 [1], cutF c35 [1], cutF c36 [1], cutF c37 [1], cutF c38 [1], cutF c24 [1], cutF c25 [1], cutF c26 [1], cutF c27 [1], cutF c28 [1]])
theorem K39_ok : FSound Tryz.prog (fun _ => none) K39 := maskK_ok (fcons Tryz.clone_ok (fcons Tryz.row_ok (fcons (Tryz.use c32_ok _) (fcons (Tryz.use c33_ok _) (fcons (Tryz.use c34_ok _) (fcons (Tryz.use c35_ok _) (fcons (Tryz.use c36_ok _) (fcons (Tryz.use c37_ok _) (fcons (Tryz.use c38_ok _) (fcons (Tryz.use c24_ok _) (fcons (Tryz.use c25_ok _) (fcons (Tryz.use c26_ok _) (fcons (Tryz.use c27_ok _) (fcons (Tryz.use c28_ok _) fnil))))))))))))))
theorem c39_p : c39.proves [59, 252] (Tryz.mach K39 3000).f = true := by kernel_rfl
theorem c39_ok : Tryz.cOk c39 := Tryz.cut K39_ok c39 _ c39_p
end W27
end
end Go.Proofs
