/- A closed fact of the row. No condition. -/
import Derived.Test.YtlmhfmlbkaabcaaGreatDoorRows
import Derived.JoinedOf
import Derived.KernelRfl
/-! The row's closed facts, one by one. -/
namespace Go.Proofs.YtlmhfmlbkaabcaaGreatDoor.debugNil
open Go
theorem jf9 : ((Rows.debugNilRow.inPlace == Tryz.prog.inPlace 3)) = true := by kernel_rfl
end Go.Proofs.YtlmhfmlbkaabcaaGreatDoor.debugNil
