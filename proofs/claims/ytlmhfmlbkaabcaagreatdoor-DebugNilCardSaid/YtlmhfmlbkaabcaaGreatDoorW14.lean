/- Cuts of the law of works, a part: calls with their answers written out. No condition. -/
import Derived.Test.YtlmhfmlbkaabcaaGreatDoorW0
import Derived.Test.YtlmhfmlbkaabcaaGreatDoorW3
import Derived.KernelRfl
set_option linter.all false
set_option linter.unusedVariables false
set_option linter.unusedSimpArgs false
namespace Go.Proofs
open Go Go.Ab
set_option maxRecDepth 1000000
set_option maxHeartbeats 0
noncomputable section
namespace W27
def K41 : FuncId → List AV → H → RF := maskK 99382111338501398437850568624707245336603412922368 (firstK [cloneK 162, rowK 166])
theorem K41_ok : FSound Tryz.prog (fun _ => none) K41 := maskK_ok (fcons Tryz.clone_ok (fcons Tryz.row_ok fnil))
theorem c41_p : c41.provesX [] (Tryz.xm K41 3000) = true := by kernel_rfl
theorem c41_ok : Tryz.cOk c41 := Tryz.cutX K41_ok c41 _ c41_p
def K42 : FuncId → List AV → H → RF := maskK 99382111338501398437850568624707245336603412922368 (firstK [cloneK 162, rowK 166])
theorem K42_ok : FSound Tryz.prog (fun _ => none) K42 := maskK_ok (fcons Tryz.clone_ok (fcons Tryz.row_ok fnil))
theorem c42_p : c42.provesX [] (Tryz.xm K42 3000) = true := by kernel_rfl
theorem c42_ok : Tryz.cOk c42 := Tryz.cutX K42_ok c42 _ c42_p
def K43 : FuncId → List AV → H → RF := maskK 99382111338501398437850568624707245336603412922368 (firstK [cloneK 162, rowK 166])
theorem K43_ok : FSound Tryz.prog (fun _ => none) K43 := maskK_ok (fcons Tryz.clone_ok (fcons Tryz.row_ok fnil))
theorem c43_p : c43.provesX [] (Tryz.xm K43 3000) = true := by kernel_rfl
theorem c43_ok : Tryz.cOk c43 := Tryz.cutX K43_ok c43 _ c43_p
def K44 : FuncId → List AV → H → RF := maskK 99382111338501398437850568624707245336603412922368 (firstK [cloneK 162, rowK 166])
theorem K44_ok : FSound Tryz.prog (fun _ => none) K44 := maskK_ok (fcons Tryz.clone_ok (fcons Tryz.row_ok fnil))
theorem c44_p : c44.provesX [] (Tryz.xm K44 3000) = true := by kernel_rfl
theorem c44_ok : Tryz.cOk c44 := Tryz.cutX K44_ok c44 _ c44_p
def K45 : FuncId → List AV → H → RF := maskK 99382111338501398437850568624707245336603412922368 (firstK [cloneK 162, rowK 166])
theorem K45_ok : FSound Tryz.prog (fun _ => none) K45 := maskK_ok (fcons Tryz.clone_ok (fcons Tryz.row_ok fnil))
theorem c45_p : c45.provesX [] (Tryz.xm K45 3000) = true := by kernel_rfl
theorem c45_ok : Tryz.cOk c45 := Tryz.cutX K45_ok c45 _ c45_p
def K46 : FuncId → List AV → H → RF := maskK 99382111338501398437850568624707245336603412922368 (firstK [cloneK 162, rowK 166])
theorem K46_ok : FSound Tryz.prog (fun _ => none) K46 := maskK_ok (fcons Tryz.clone_ok (fcons Tryz.row_ok fnil))
theorem c46_p : c46.provesX [] (Tryz.xm K46 3000) = true := by kernel_rfl
theorem c46_ok : Tryz.cOk c46 := Tryz.cutX K46_ok c46 _ c46_p
def K47 : FuncId → List AV → H → RF := maskK 102305114613163204274257938290139811375915278008320 (firstK [cloneK 162, rowK 166, cutF c2 [87], cutF c3 [87, 127], cutF c4 [78, 127], cutF c3 [127, 154], cutF c3 [127, 189], cutF c3 [87, 229], cutF c4 [78, 229], cutF c3 [127, 256]])
theorem K47_ok : FSound Tryz.prog (fun _ => none) K47 := maskK_ok (fcons Tryz.clone_ok (fcons Tryz.row_ok (fcons (Tryz.use c2_ok _) (fcons (Tryz.use c3_ok _) (fcons (Tryz.use c4_ok _) (fcons (Tryz.use c3_ok _) (fcons (Tryz.use c3_ok _) (fcons (Tryz.use c3_ok _) (fcons (Tryz.use c4_ok _) (fcons (Tryz.use c3_ok _) fnil))))))))))
theorem c47_p : c47.proves [32, 34, 63, 393, 395, 399, 400, 401, 473, 502, 504, 508, 509, 510, 513, 515, 519, 520, 521, 606, 626, 630, 632, 678, 680, 684, 685, 686, 711, 713, 717, 718, 719, 721, 723, 729, 731] (Tryz.mach K47 3000).f = true := by kernel_rfl
theorem c47_ok : Tryz.cOk c47 := Tryz.cut K47_ok c47 _ c47_p
end W27
end
end Go.Proofs
