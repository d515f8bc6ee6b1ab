/- DebugNil: no debugger tells anything, and of images that say nothing there is none: for every command and every image the law returns true (the tied card). No condition. -/
import Derived.Test.YtlmhfmlbkaabcaaGreatDoorR2
import Derived.Test.YtlmhfmlbkaabcaaGreatDoorF6
import Derived.Test.YtlmhfmlbkaabcaaGreatDoorW99
import Derived.Test.YtlmhfmlbkaabcaaGreatDoorCards
import Derived.Test.YtlmhfmlbkaabcaaGreatDoorTie
import Derived.SevenTiedAt
set_option linter.all false
set_option linter.unusedVariables false
set_option linter.unusedSimpArgs false
namespace Go.Proofs.YtlmhfmlbkaabcaaGreatDoor.debugNil
open Go
theorem looks0 : true = Tryz.prog.looks [] := by kernel_rfl
theorem noStandIn : ([23, 30].all fun u => !Tryz.prog.wantsStandIn u) = true := by kernel_rfl
theorem plain_of {P : Program} {s : String} {f0 : FuncId} {fn0 : Func} (h1 : P.funcNamed s = some f0) (h2 : P.funcs[f0]? = some fn0) (hp : fn0.params = #[23, 30]) (hl : true = P.looks []) (hs : ([23, 30].all fun u => !P.wantsStandIn u) = true)
    (f : FuncId) (fn : Func) (hf : P.funcNamed s = some f) (hfn : P.funcs[f]? = some fn) : true = P.looks [] ∧ ∀ (j : Nat) t, fn.params[j]? = some t → P.wantsStandIn t = false := by
  obtain rfl : f = f0 := Option.some.inj (hf.symm.trans h1)
  obtain rfl : fn = fn0 := Option.some.inj (hfn.symm.trans h2)
  refine ⟨hl, fun j t ht => ?_⟩
  rw [hp] at ht
  have hm : t ∈ [23, 30] := by simpa using Array.mem_of_getElem? ht
  simpa using List.all_eq_true.1 hs t hm
theorem hmain : Tryz.prog.mainIs = some (true, "d7ae66d46c25c70c839cee8f9c48f522af56af9d697ac24372b1a3803a3ddcd6".toList) := by kernel_rfl
theorem hwf : Rows.debugNilRow.wfByText (OpenSpec.ofChange Rows.debugNilSpec) = true := by kernel_rfl
set_option maxRecDepth 100000 in
/-- ████ THE CARD ████ -/
theorem card_of (hsaid : Rows.DebugNilSaid) : Rows.DebugNilCardSaid :=
  Claim7.holds_tied_plain_at (p := Tryz.pinned) (s := OpenSpec.ofChange Rows.debugNilSpec) (c := Rows.debugNilRow) .later [] [.data] true (true, "d7ae66d46c25c70c839cee8f9c48f522af56af9d697ac24372b1a3803a3ddcd6") true hsaid (fun _ h => by cases h) hwf (fun _ h => by cases h) debugNil_row_tie rfl ⟨rfl, rfl⟩ hmain rfl
    (fun f fn hf hfn => plain_of (P := Tryz.prog) named3 Tryz.func3 Tryz.params3 looks0 noStandIn f fn hf hfn) goesFalse
theorem card : Rows.DebugNilCardSaid := card_of (said Tryz.works27)
end Go.Proofs.YtlmhfmlbkaabcaaGreatDoor.debugNil
