/- Cuts of the law of works, a part: calls with their answers written out. No condition. -/
import Derived.Test.YtlmhfmlbkaabcaaGreatDoorW0
import Derived.KernelRfl
set_option linter.all false
set_option linter.unusedVariables false
set_option linter.unusedSimpArgs false
namespace Go.Proofs
open Go Go.Ab
set_option maxRecDepth 1000000
set_option maxHeartbeats 0
noncomputable section
namespace W27
def K2 : FuncId → List AV → H → RF := maskK 99382111338501398437850568624707245336603412922368 (firstK [cloneK 162, rowK 166])
theorem K2_ok : FSound Tryz.prog (fun _ => none) K2 := maskK_ok (fcons Tryz.clone_ok (fcons Tryz.row_ok fnil))
theorem c2_p : c2.provesX [] (Tryz.xm K2 3000) = true := by kernel_rfl
theorem c2_ok : Tryz.cOk c2 := Tryz.cutX K2_ok c2 _ c2_p
def K3 : FuncId → List AV → H → RF := maskK 99382111338501398437850568624707245336603412922368 (firstK [cloneK 162, rowK 166])
theorem K3_ok : FSound Tryz.prog (fun _ => none) K3 := maskK_ok (fcons Tryz.clone_ok (fcons Tryz.row_ok fnil))
theorem c3_p : c3.provesX [] (Tryz.xm K3 3000) = true := by kernel_rfl
theorem c3_ok : Tryz.cOk c3 := Tryz.cutX K3_ok c3 _ c3_p
def K4 : FuncId → List AV → H → RF := maskK 99382111338501398437850568624707245336603412922368 (firstK [cloneK 162, rowK 166])
theorem K4_ok : FSound Tryz.prog (fun _ => none) K4 := maskK_ok (fcons Tryz.clone_ok (fcons Tryz.row_ok fnil))
theorem c4_p : c4.provesX [] (Tryz.xm K4 3000) = true := by kernel_rfl
theorem c4_ok : Tryz.cOk c4 := Tryz.cutX K4_ok c4 _ c4_p
end W27
end
end Go.Proofs
