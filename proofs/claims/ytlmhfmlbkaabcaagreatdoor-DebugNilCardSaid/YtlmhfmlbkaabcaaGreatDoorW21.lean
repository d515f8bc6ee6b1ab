/- Cuts of the law of works, a part: calls with their answers written out. No condition. -/
import Derived.Test.YtlmhfmlbkaabcaaGreatDoorW0
import Derived.Test.YtlmhfmlbkaabcaaGreatDoorW19
import Derived.Test.YtlmhfmlbkaabcaaGreatDoorW20
import Derived.KernelRfl
set_option linter.all false
set_option linter.unusedVariables false
set_option linter.unusedSimpArgs false
namespace Go.Proofs
open Go Go.Ab
set_option maxRecDepth 1000000
set_option maxHeartbeats 0
noncomputable section
namespace W27
def K72 : FuncId → List AV → H → RF := maskK 99382111338501398437850568624707245336603412922368 (firstK [cloneK 162, rowK 166])
theorem K72_ok : FSound Tryz.prog (fun _ => none) K72 := maskK_ok (fcons Tryz.clone_ok (fcons Tryz.row_ok fnil))
theorem c72_p : c72.proves [] (Tryz.mach K72 3000).f = true := by kernel_rfl
theorem c72_ok : Tryz.cOk c72 := Tryz.cut K72_ok c72 _ c72_p
def K73 : FuncId → List AV → H → RF := maskK 99382111338501398437850568624707245336603412922368 (firstK [cloneK 162, rowK 166])
theorem K73_ok : FSound Tryz.prog (fun _ => none) K73 := maskK_ok (fcons Tryz.clone_ok (fcons Tryz.row_ok fnil))
theorem c73_p : c73.proves [] (Tryz.mach K73 3000).f = true := by kernel_rfl
theorem c73_ok : Tryz.cOk c73 := Tryz.cut K73_ok c73 _ c73_p
def K74 : FuncId → List AV → H → RF := maskK 99382111338501398437850568624707245336603412922368 (firstK [cloneK 162, rowK 166])
theorem K74_ok : FSound Tryz.prog (fun _ => none) K74 := maskK_ok (fcons Tryz.clone_ok (fcons Tryz.row_ok fnil))
theorem c74_p : c74.proves [] (Tryz.mach K74 3000).f = true := by kernel_rfl
theorem c74_ok : Tryz.cOk c74 := Tryz.cut K74_ok c74 _ c74_p
def K75 : FuncId → List AV → H → RF := maskK 99382111338501398437850568624707245336603412922368 (firstK [cloneK 162, rowK 166])
theorem K75_ok : FSound Tryz.prog (fun _ => none) K75 := maskK_ok (fcons Tryz.clone_ok (fcons Tryz.row_ok fnil))
theorem c75_p : c75.proves [] (Tryz.mach K75 3000).f = true := by kernel_rfl
theorem c75_ok : Tryz.cOk c75 := Tryz.cut K75_ok c75 _ c75_p
def K76 : FuncId → List AV → H → RF := maskK 99382111338501398437850568624707245336603412922368 (firstK [cloneK 162, rowK 166])
theorem K76_ok : FSound Tryz.prog (fun _ => none) K76 := maskK_ok (fcons Tryz.clone_ok (fcons Tryz.row_ok fnil))
theorem c76_p : c76.proves [] (Tryz.mach K76 3000).f = true := by kernel_rfl
theorem c76_ok : Tryz.cOk c76 := Tryz.cut K76_ok c76 _ c76_p
def K77 : FuncId → List AV → H → RF := maskK 98079813997528225436332647588188412458844640423163461632 (firstK [cloneK 162, rowK 166, cutF c69 [1], cutF c70 [1], cutF c71 [1], cutF c72 [1], cutF c73 [1], cutF c74 [1], cutF c75 [1], cutF c76 [1], cutF c60 [1], cutF c61 [1], cutF c62 [1], cutF c63 [1], cutF c64 [1], cutF c65 [1]])
theorem K77_ok : FSound Tryz.prog (fun _ => none) K77 := maskK_ok (fcons Tryz.clone_ok (fcons Tryz.row_ok (fcons (Tryz.use c69_ok _) (fcons (Tryz.use c70_ok _) (fcons (Tryz.use c71_ok _) (fcons (Tryz.use c72_ok _) (fcons (Tryz.use c73_ok _) (fcons (Tryz.use c74_ok _) (fcons (Tryz.use c75_ok _) (fcons (Tryz.use c76_ok _) (fcons (Tryz.use c60_ok _) (fcons (Tryz.use c61_ok _) (fcons (Tryz.use c62_ok _) (fcons (Tryz.use c63_ok _) (fcons (Tryz.use c64_ok _) (fcons (Tryz.use c65_ok _) fnil))))))))))))))))
theorem c77_p : c77.proves [59, 282] (Tryz.mach K77 3000).f = true := by kernel_rfl
theorem c77_ok : Tryz.cOk c77 := Tryz.cut K77_ok c77 _ c77_p
end W27
end
end Go.Proofs
