/- Cuts of the law of works, a part: calls with their answers written out. No condition. -/
import Derived.Test.YtlmhfmlbkaabcaaGreatDoorW0
import Derived.Test.YtlmhfmlbkaabcaaGreatDoorW9
import Derived.KernelRfl
set_option linter.all false
set_option linter.unusedVariables false
set_option linter.unusedSimpArgs false
namespace Go.Proofs
open Go Go.Ab
set_option maxRecDepth 1000000
set_option maxHeartbeats 0
noncomputable section
namespace W27
def K23 : FuncId → List AV → H → RF := maskK 99382111338501398437850568624707245336603412922368 (firstK [cloneK 162, rowK 166])
theorem K23_ok : FSound Tryz.prog (fun _ => none) K23 := maskK_ok (fcons Tryz.clone_ok (fcons Tryz.row_ok fnil))
theorem c23_p : c23.proves [] (Tryz.mach K23 3000).f = true := by kernel_rfl
theorem c23_ok : Tryz.cOk c23 := Tryz.cut K23_ok c23 _ c23_p
def K24 : FuncId → List AV → H → RF := maskK 99382111338501398437850568624707245336603412922368 (firstK [cloneK 162, rowK 166])
theorem K24_ok : FSound Tryz.prog (fun _ => none) K24 := maskK_ok (fcons Tryz.clone_ok (fcons Tryz.row_ok fnil))
theorem c24_p : c24.proves [] (Tryz.mach K24 3000).f = true := by kernel_rfl
theorem c24_ok : Tryz.cOk c24 := Tryz.cut K24_ok c24 _ c24_p
def K25 : FuncId → List AV → H → RF := maskK 99382111338501398437850568624707245336603412922368 (firstK [cloneK 162, rowK 166])
theorem K25_ok : FSound Tryz.prog (fun _ => none) K25 := maskK_ok (fcons Tryz.clone_ok (fcons Tryz.row_ok fnil))
theorem c25_p : c25.proves [] (Tryz.mach K25 3000).f = true := by kernel_rfl
theorem c25_ok : Tryz.cOk c25 := Tryz.cut K25_ok c25 _ c25_p
def K26 : FuncId → List AV → H → RF := maskK 99382111338501398437850568624707245336603412922368 (firstK [cloneK 162, rowK 166])
theorem K26_ok : FSound Tryz.prog (fun _ => none) K26 := maskK_ok (fcons Tryz.clone_ok (fcons Tryz.row_ok fnil))
theorem c26_p : c26.proves [] (Tryz.mach K26 3000).f = true := by kernel_rfl
theorem c26_ok : Tryz.cOk c26 := Tryz.cut K26_ok c26 _ c26_p
def K27 : FuncId → List AV → H → RF := maskK 99382111338501398437850568624707245336603412922368 (firstK [cloneK 162, rowK 166])
theorem K27_ok : FSound Tryz.prog (fun _ => none) K27 := maskK_ok (fcons Tryz.clone_ok (fcons Tryz.row_ok fnil))
theorem c27_p : c27.proves [] (Tryz.mach K27 3000).f = true := by kernel_rfl
theorem c27_ok : Tryz.cOk c27 := Tryz.cut K27_ok c27 _ c27_p
def K28 : FuncId → List AV → H → RF := maskK 99382111338501398437850568624707245336603412922368 (firstK [cloneK 162, rowK 166])
theorem K28_ok : FSound Tryz.prog (fun _ => none) K28 := maskK_ok (fcons Tryz.clone_ok (fcons Tryz.row_ok fnil))
theorem c28_p : c28.proves [] (Tryz.mach K28 3000).f = true := by kernel_rfl
theorem c28_ok : Tryz.cOk c28 := Tryz.cut K28_ok c28 _ c28_p
def K29 : FuncId → List AV → H → RF := maskK 98079813997528225436332647588188412458844640423163461632 (firstK [cloneK 162, rowK 166, cutF c18 [1], cutF c19 [1], cutF c20 [1], cutF c21 [1], cutF c22 [1], cutF c23 [1], cutF c24 [1], cutF c25 [1], cutF c26 [1], cutF c27 [1], cutF c28 [1]])
theorem K29_ok : FSound Tryz.prog (fun _ => none) K29 := maskK_ok (fcons Tryz.clone_ok (fcons Tryz.row_ok (fcons (Tryz.use c18_ok _) (fcons (Tryz.use c19_ok _) (fcons (Tryz.use c20_ok _) (fcons (Tryz.use c21_ok _) (fcons (Tryz.use c22_ok _) (fcons (Tryz.use c23_ok _) (fcons (Tryz.use c24_ok _) (fcons (Tryz.use c25_ok _) (fcons (Tryz.use c26_ok _) (fcons (Tryz.use c27_ok _) (fcons (Tryz.use c28_ok _) fnil)))))))))))))
theorem c29_p : c29.proves [] (Tryz.mach K29 3000).f = true := by kernel_rfl
theorem c29_ok : Tryz.cOk c29 := Tryz.cut K29_ok c29 _ c29_p
end W27
end
end Go.Proofs
