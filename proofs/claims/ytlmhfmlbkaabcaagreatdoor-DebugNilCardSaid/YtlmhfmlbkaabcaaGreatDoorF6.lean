/- No go statement stands in the program. No condition. -/
import Derived.Test.YtlmhfmlbkaabcaaGreatDoorRows
import GoSem.ClaimGoes
import Derived.KernelRfl
set_option linter.all false
set_option linter.unusedVariables false
set_option linter.unusedSimpArgs false
/-! No go statement stands in the program. -/
namespace Go.Proofs.YtlmhfmlbkaabcaaGreatDoor.debugNil
open Go
theorem noGo : (Tryz.prog.funcs.any Func.goes) = false := by kernel_rfl
theorem named3 : Tryz.prog.funcNamed "theodolite/theodolitelaw27.DebugNil" = some 3 := by kernel_rfl
theorem goes_of {P : Program} (h : (P.funcs.any Func.goes) = false) (f : FuncId) : P.goes f = false := by
  have hg : ∀ g : FuncId, (P.funcs[g]?).any Func.goes = false := fun g => by
    cases hq : P.funcs[g]? with
    | none => rfl
    | some fn =>
      have hm : fn ∈ P.funcs := Array.mem_of_getElem? hq
      rw [Array.any_eq_false'] at h
      have := h fn hm
      simpa using this
  have hc : ((P.closure f).any fun g => (P.funcs[g]?).any Func.goes) = false := List.any_eq_false.2 fun g _ => by rw [hg g]; decide
  unfold Program.goes
  rw [h, hc, Bool.and_false, Bool.or_false]
theorem goesAt_entering (P : Program) (s : String) : P.goesAt .entering s = P.goesFrom s := by
  unfold Program.goesAt
  simp
theorem goesBy_of {P : Program} {c : OpenClaim} {s : String} {f : FuncId} (h : (P.funcs.any Func.goes) = false) (hs : c.start = .entering) (hf : c.func = s) (hn : P.funcNamed s = some f) : false = c.goesBy P := by
  unfold OpenClaim.goesBy
  rw [hs, goesAt_entering, hf]
  unfold Program.goesFrom
  rw [hn]
  exact (goes_of h f).symm
theorem goesFalse : false = Rows.debugNilRow.goesBy Tryz.prog := goesBy_of noGo rfl rfl named3
end Go.Proofs.YtlmhfmlbkaabcaaGreatDoor.debugNil
