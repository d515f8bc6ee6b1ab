/- Cuts of the law of works, a part: calls with their answers written out. No condition. -/
import Derived.Test.YtlmhfmlbkaabcaaGreatDoorW0
import Derived.Test.YtlmhfmlbkaabcaaGreatDoorW3
import Derived.KernelRfl
set_option linter.all false
set_option linter.unusedVariables false
set_option linter.unusedSimpArgs false
namespace Go.Proofs
open Go Go.Ab
set_option maxRecDepth 1000000
set_option maxHeartbeats 0
noncomputable section
namespace W27
def K6 : FuncId → List AV → H → RF := maskK 99382111338501398437850568624707245336603412922368 (firstK [cloneK 162, rowK 166])
theorem K6_ok : FSound Tryz.prog (fun _ => none) K6 := maskK_ok (fcons Tryz.clone_ok (fcons Tryz.row_ok fnil))
theorem c6_p : c6.provesX [] (Tryz.xm K6 3000) = true := by kernel_rfl
theorem c6_ok : Tryz.cOk c6 := Tryz.cutX K6_ok c6 _ c6_p
def K7 : FuncId → List AV → H → RF := maskK 99382111338501398437850568624707245336603412922368 (firstK [cloneK 162, rowK 166])
theorem K7_ok : FSound Tryz.prog (fun _ => none) K7 := maskK_ok (fcons Tryz.clone_ok (fcons Tryz.row_ok fnil))
theorem c7_p : c7.provesX [] (Tryz.xm K7 3000) = true := by kernel_rfl
theorem c7_ok : Tryz.cOk c7 := Tryz.cutX K7_ok c7 _ c7_p
def K8 : FuncId → List AV → H → RF := maskK 99382111338501398437850568624707245336603412922368 (firstK [cloneK 162, rowK 166])
theorem K8_ok : FSound Tryz.prog (fun _ => none) K8 := maskK_ok (fcons Tryz.clone_ok (fcons Tryz.row_ok fnil))
theorem c8_p : c8.provesX [] (Tryz.xm K8 3000) = true := by kernel_rfl
theorem c8_ok : Tryz.cOk c8 := Tryz.cutX K8_ok c8 _ c8_p
def K9 : FuncId → List AV → H → RF := maskK 99382111338501398437850568624707245336603412922368 (firstK [cloneK 162, rowK 166])
theorem K9_ok : FSound Tryz.prog (fun _ => none) K9 := maskK_ok (fcons Tryz.clone_ok (fcons Tryz.row_ok fnil))
theorem c9_p : c9.provesX [] (Tryz.xm K9 3000) = true := by kernel_rfl
theorem c9_ok : Tryz.cOk c9 := Tryz.cutX K9_ok c9 _ c9_p
def K10 : FuncId → List AV → H → RF := maskK 99382111338501398437850568624707245336603412922368 (firstK [cloneK 162, rowK 166])
theorem K10_ok : FSound Tryz.prog (fun _ => none) K10 := maskK_ok (fcons Tryz.clone_ok (fcons Tryz.row_ok fnil))
theorem c10_p : c10.provesX [] (Tryz.xm K10 3000) = true := by kernel_rfl
theorem c10_ok : Tryz.cOk c10 := Tryz.cutX K10_ok c10 _ c10_p
def K11 : FuncId → List AV → H → RF := maskK 99382111338501398437850568624707245336603412922368 (firstK [cloneK 162, rowK 166])
theorem K11_ok : FSound Tryz.prog (fun _ => none) K11 := maskK_ok (fcons Tryz.clone_ok (fcons Tryz.row_ok fnil))
theorem c11_p : c11.provesX [] (Tryz.xm K11 3000) = true := by kernel_rfl
theorem c11_ok : Tryz.cOk c11 := Tryz.cutX K11_ok c11 _ c11_p
def K12 : FuncId → List AV → H → RF := maskK 102305114613163204274257938290139811375915278008320 (firstK [cloneK 162, rowK 166, cutF c2 [87], cutF c3 [87, 127], cutF c4 [78, 127], cutF c3 [127, 154], cutF c3 [127, 189], cutF c3 [87, 229], cutF c4 [78, 229], cutF c3 [127, 256]])
theorem K12_ok : FSound Tryz.prog (fun _ => none) K12 := maskK_ok (fcons Tryz.clone_ok (fcons Tryz.row_ok (fcons (Tryz.use c2_ok _) (fcons (Tryz.use c3_ok _) (fcons (Tryz.use c4_ok _) (fcons (Tryz.use c3_ok _) (fcons (Tryz.use c3_ok _) (fcons (Tryz.use c3_ok _) (fcons (Tryz.use c4_ok _) (fcons (Tryz.use c3_ok _) fnil))))))))))
theorem c12_p : c12.proves [32, 34, 63, 389, 391, 395, 396, 397, 466, 495, 497, 501, 502, 503, 506, 508, 512, 513, 514, 600, 620, 625, 627, 669, 671, 675, 676, 677, 702, 704, 708, 709, 710, 712, 714, 720, 722] (Tryz.mach K12 3000).f = true := by kernel_rfl
theorem c12_ok : Tryz.cOk c12 := Tryz.cut K12_ok c12 _ c12_p
end W27
end
end Go.Proofs
