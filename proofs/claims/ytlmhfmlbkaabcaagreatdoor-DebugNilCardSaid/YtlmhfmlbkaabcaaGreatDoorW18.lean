/- Cuts of the law of works, a part: calls with their answers written out. No condition. -/
import Derived.Test.YtlmhfmlbkaabcaaGreatDoorW0
import Derived.Test.YtlmhfmlbkaabcaaGreatDoorW1
import Derived.Test.YtlmhfmlbkaabcaaGreatDoorW17
import Derived.KernelRfl
set_option linter.all false
set_option linter.unusedVariables false
set_option linter.unusedSimpArgs false
namespace Go.Proofs
open Go Go.Ab
set_option maxRecDepth 1000000
set_option maxHeartbeats 0
noncomputable section
namespace W27
def K51 : FuncId → List AV → H → RF := maskK 99382111338501398437851806564746530716878320435200 (firstK [cloneK 162, rowK 166, cutF c0 [0, 1, 2, 3, 4, 5, 6, 7, 8], cutF c50 [306, 308, 309, 310, 311, 312, 337, 360, 379, 406, 409]])
theorem K51_ok : FSound Tryz.prog (fun _ => none) K51 := maskK_ok (fcons Tryz.clone_ok (fcons Tryz.row_ok (fcons (Tryz.use c0_ok _) (fcons (Tryz.use c50_ok _) fnil))))
theorem c51_p : c51.proves [411, 412, 413, 414, 415, 416, 417, 418, 419, 420, 421, 422, 423, 424, 425, 437, 451, 455, 465, 489, 496, 503, 516, 526, 528, 551, 558, 563, 568, 571] (Tryz.mach K51 3000).f = true := by kernel_rfl
theorem c51_ok : Tryz.cOk c51 := Tryz.cut K51_ok c51 _ c51_p
def K52 : FuncId → List AV → H → RF := maskK 99382111338501398437850568624707245336603412922368 (firstK [cloneK 162, rowK 166])
theorem K52_ok : FSound Tryz.prog (fun _ => none) K52 := maskK_ok (fcons Tryz.clone_ok (fcons Tryz.row_ok fnil))
theorem c52_p : c52.proves [] (Tryz.mach K52 3000).f = true := by kernel_rfl
theorem c52_ok : Tryz.cOk c52 := Tryz.cut K52_ok c52 _ c52_p
def K53 : FuncId → List AV → H → RF := maskK 99382111338501398437850568624707245336603412922368 (firstK [cloneK 162, rowK 166])
theorem K53_ok : FSound Tryz.prog (fun _ => none) K53 := maskK_ok (fcons Tryz.clone_ok (fcons Tryz.row_ok fnil))
theorem c53_p : c53.proves [] (Tryz.mach K53 3000).f = true := by kernel_rfl
theorem c53_ok : Tryz.cOk c53 := Tryz.cut K53_ok c53 _ c53_p
def K54 : FuncId → List AV → H → RF := maskK 99382111338501398437850568624707245336603412922368 (firstK [cloneK 162, rowK 166])
theorem K54_ok : FSound Tryz.prog (fun _ => none) K54 := maskK_ok (fcons Tryz.clone_ok (fcons Tryz.row_ok fnil))
theorem c54_p : c54.proves [] (Tryz.mach K54 3000).f = true := by kernel_rfl
theorem c54_ok : Tryz.cOk c54 := Tryz.cut K54_ok c54 _ c54_p
def K55 : FuncId → List AV → H → RF := maskK 99382111338501398437850568624707245336603412922368 (firstK [cloneK 162, rowK 166])
theorem K55_ok : FSound Tryz.prog (fun _ => none) K55 := maskK_ok (fcons Tryz.clone_ok (fcons Tryz.row_ok fnil))
theorem c55_p : c55.proves [] (Tryz.mach K55 3000).f = true := by kernel_rfl
theorem c55_ok : Tryz.cOk c55 := Tryz.cut K55_ok c55 _ c55_p
end W27
end
end Go.Proofs
