/- Cuts of the law of works, a part: calls with their answers written out. No condition. -/
import Derived.Test.YtlmhfmlbkaabcaaGreatDoorW0
import Derived.Test.YtlmhfmlbkaabcaaGreatDoorW18
import Derived.Test.YtlmhfmlbkaabcaaGreatDoorW19
import Derived.KernelRfl
set_option linter.all false
set_option linter.unusedVariables false
set_option linter.unusedSimpArgs false
namespace Go.Proofs
open Go Go.Ab
set_option maxRecDepth 1000000
set_option maxHeartbeats 0
noncomputable section
namespace W27
def K64 : FuncId → List AV → H → RF := maskK 99382111338501398437850568624707245336603412922368 (firstK [cloneK 162, rowK 166])
theorem K64_ok : FSound Tryz.prog (fun _ => none) K64 := maskK_ok (fcons Tryz.clone_ok (fcons Tryz.row_ok fnil))
theorem c64_p : c64.proves [] (Tryz.mach K64 3000).f = true := by kernel_rfl
theorem c64_ok : Tryz.cOk c64 := Tryz.cut K64_ok c64 _ c64_p
def K65 : FuncId → List AV → H → RF := maskK 99382111338501398437850568624707245336603412922368 (firstK [cloneK 162, rowK 166])
theorem K65_ok : FSound Tryz.prog (fun _ => none) K65 := maskK_ok (fcons Tryz.clone_ok (fcons Tryz.row_ok fnil))
theorem c65_p : c65.proves [] (Tryz.mach K65 3000).f = true := by kernel_rfl
theorem c65_ok : Tryz.cOk c65 := Tryz.cut K65_ok c65 _ c65_p
def K66 : FuncId → List AV → H → RF := maskK 98079813997528225436332647588188412458844640423163461632 (firstK [cloneK 162, rowK 166, cutF c53 [1], cutF c54 [1], cutF c55 [1], cutF c56 [1], cutF c57 [1], cutF c58 [1], cutF c59 [1], cutF c60 [1], cutF c61 [1], cutF c62 [1], cutF c63 [1], cutF c64 [1], cutF c65 [1]])
theorem K66_ok : FSound Tryz.prog (fun _ => none) K66 := maskK_ok (fcons Tryz.clone_ok (fcons Tryz.row_ok (fcons (Tryz.use c53_ok _) (fcons (Tryz.use c54_ok _) (fcons (Tryz.use c55_ok _) (fcons (Tryz.use c56_ok _) (fcons (Tryz.use c57_ok _) (fcons (Tryz.use c58_ok _) (fcons (Tryz.use c59_ok _) (fcons (Tryz.use c60_ok _) (fcons (Tryz.use c61_ok _) (fcons (Tryz.use c62_ok _) (fcons (Tryz.use c63_ok _) (fcons (Tryz.use c64_ok _) (fcons (Tryz.use c65_ok _) fnil)))))))))))))))
theorem c66_p : c66.proves [] (Tryz.mach K66 3000).f = true := by kernel_rfl
theorem c66_ok : Tryz.cOk c66 := Tryz.cut K66_ok c66 _ c66_p
def K67 : FuncId → List AV → H → RF := maskK 99382111338501398437850568624707245336603412922368 (firstK [cloneK 162, rowK 166])
theorem K67_ok : FSound Tryz.prog (fun _ => none) K67 := maskK_ok (fcons Tryz.clone_ok (fcons Tryz.row_ok fnil))
theorem c67_p : c67.proves [132, 133] (Tryz.mach K67 3000).f = true := by kernel_rfl
theorem c67_ok : Tryz.cOk c67 := Tryz.cut K67_ok c67 _ c67_p
def K68 : FuncId → List AV → H → RF := maskK 99382111338501398437850568624707245336603412922368 (firstK [cloneK 162, rowK 166])
theorem K68_ok : FSound Tryz.prog (fun _ => none) K68 := maskK_ok (fcons Tryz.clone_ok (fcons Tryz.row_ok fnil))
theorem c68_p : c68.proves [97] (Tryz.mach K68 3000).f = true := by kernel_rfl
theorem c68_ok : Tryz.cOk c68 := Tryz.cut K68_ok c68 _ c68_p
def K69 : FuncId → List AV → H → RF := maskK 99382111338501398437850568624707245336603412922368 (firstK [cloneK 162, rowK 166])
theorem K69_ok : FSound Tryz.prog (fun _ => none) K69 := maskK_ok (fcons Tryz.clone_ok (fcons Tryz.row_ok fnil))
theorem c69_p : c69.proves [] (Tryz.mach K69 3000).f = true := by kernel_rfl
theorem c69_ok : Tryz.cOk c69 := Tryz.cut K69_ok c69 _ c69_p
def K70 : FuncId → List AV → H → RF := maskK 99382111338501398437850568624707245336603412922368 (firstK [cloneK 162, rowK 166])
theorem K70_ok : FSound Tryz.prog (fun _ => none) K70 := maskK_ok (fcons Tryz.clone_ok (fcons Tryz.row_ok fnil))
theorem c70_p : c70.proves [] (Tryz.mach K70 3000).f = true := by kernel_rfl
theorem c70_ok : Tryz.cOk c70 := Tryz.cut K70_ok c70 _ c70_p
def K71 : FuncId → List AV → H → RF := maskK 99382111338501398437850568624707245336603412922368 (firstK [cloneK 162, rowK 166])
theorem K71_ok : FSound Tryz.prog (fun _ => none) K71 := maskK_ok (fcons Tryz.clone_ok (fcons Tryz.row_ok fnil))
theorem c71_p : c71.proves [] (Tryz.mach K71 3000).f = true := by kernel_rfl
theorem c71_ok : Tryz.cOk c71 := Tryz.cut K71_ok c71 _ c71_p
end W27
end
end Go.Proofs
