/- Cuts of the law of works, a part: calls with their answers written out. No condition. -/
import Derived.Test.YtlmhfmlbkaabcaaGreatDoorW0
import Derived.KernelRfl
set_option linter.all false
set_option linter.unusedVariables false
set_option linter.unusedSimpArgs false
namespace Go.Proofs
open Go Go.Ab
set_option maxRecDepth 1000000
set_option maxHeartbeats 0
noncomputable section
namespace W27
def K56 : FuncId → List AV → H → RF := maskK 99382111338501398437850568624707245336603412922368 (firstK [cloneK 162, rowK 166])
theorem K56_ok : FSound Tryz.prog (fun _ => none) K56 := maskK_ok (fcons Tryz.clone_ok (fcons Tryz.row_ok fnil))
theorem c56_p : c56.proves [] (Tryz.mach K56 3000).f = true := by kernel_rfl
theorem c56_ok : Tryz.cOk c56 := Tryz.cut K56_ok c56 _ c56_p
def K57 : FuncId → List AV → H → RF := maskK 99382111338501398437850568624707245336603412922368 (firstK [cloneK 162, rowK 166])
theorem K57_ok : FSound Tryz.prog (fun _ => none) K57 := maskK_ok (fcons Tryz.clone_ok (fcons Tryz.row_ok fnil))
theorem c57_p : c57.proves [] (Tryz.mach K57 3000).f = true := by kernel_rfl
theorem c57_ok : Tryz.cOk c57 := Tryz.cut K57_ok c57 _ c57_p
def K58 : FuncId → List AV → H → RF := maskK 99382111338501398437850568624707245336603412922368 (firstK [cloneK 162, rowK 166])
theorem K58_ok : FSound Tryz.prog (fun _ => none) K58 := maskK_ok (fcons Tryz.clone_ok (fcons Tryz.row_ok fnil))
theorem c58_p : c58.proves [] (Tryz.mach K58 3000).f = true := by kernel_rfl
theorem c58_ok : Tryz.cOk c58 := Tryz.cut K58_ok c58 _ c58_p
def K59 : FuncId → List AV → H → RF := maskK 99382111338501398437850568624707245336603412922368 (firstK [cloneK 162, rowK 166])
theorem K59_ok : FSound Tryz.prog (fun _ => none) K59 := maskK_ok (fcons Tryz.clone_ok (fcons Tryz.row_ok fnil))
theorem c59_p : c59.proves [] (Tryz.mach K59 3000).f = true := by kernel_rfl
theorem c59_ok : Tryz.cOk c59 := Tryz.cut K59_ok c59 _ c59_p
def K60 : FuncId → List AV → H → RF := maskK 99382111338501398437850568624707245336603412922368 (firstK [cloneK 162, rowK 166])
theorem K60_ok : FSound Tryz.prog (fun _ => none) K60 := maskK_ok (fcons Tryz.clone_ok (fcons Tryz.row_ok fnil))
theorem c60_p : c60.proves [] (Tryz.mach K60 3000).f = true := by kernel_rfl
theorem c60_ok : Tryz.cOk c60 := Tryz.cut K60_ok c60 _ c60_p
def K61 : FuncId → List AV → H → RF := maskK 99382111338501398437850568624707245336603412922368 (firstK [cloneK 162, rowK 166])
theorem K61_ok : FSound Tryz.prog (fun _ => none) K61 := maskK_ok (fcons Tryz.clone_ok (fcons Tryz.row_ok fnil))
theorem c61_p : c61.proves [] (Tryz.mach K61 3000).f = true := by kernel_rfl
theorem c61_ok : Tryz.cOk c61 := Tryz.cut K61_ok c61 _ c61_p
def K62 : FuncId → List AV → H → RF := maskK 99382111338501398437850568624707245336603412922368 (firstK [cloneK 162, rowK 166])
theorem K62_ok : FSound Tryz.prog (fun _ => none) K62 := maskK_ok (fcons Tryz.clone_ok (fcons Tryz.row_ok fnil))
theorem c62_p : c62.proves [] (Tryz.mach K62 3000).f = true := by kernel_rfl
theorem c62_ok : Tryz.cOk c62 := Tryz.cut K62_ok c62 _ c62_p
def K63 : FuncId → List AV → H → RF := maskK 99382111338501398437850568624707245336603412922368 (firstK [cloneK 162, rowK 166])
theorem K63_ok : FSound Tryz.prog (fun _ => none) K63 := maskK_ok (fcons Tryz.clone_ok (fcons Tryz.row_ok fnil))
theorem c63_p : c63.proves [] (Tryz.mach K63 3000).f = true := by kernel_rfl
theorem c63_ok : Tryz.cOk c63 := Tryz.cut K63_ok c63 _ c63_p
end W27
end
end Go.Proofs
