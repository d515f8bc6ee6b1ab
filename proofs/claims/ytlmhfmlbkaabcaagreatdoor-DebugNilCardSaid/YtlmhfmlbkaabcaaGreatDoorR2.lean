/- The row of DebugNil holds. No condition but that works returns true. -/
import Derived.Test.YtlmhfmlbkaabcaaGreatDoorR1
import Derived.Test.YtlmhfmlbkaabcaaGreatDoorF1
import Derived.Test.YtlmhfmlbkaabcaaGreatDoorF2
import Derived.Test.YtlmhfmlbkaabcaaGreatDoorF3
import Derived.Test.YtlmhfmlbkaabcaaGreatDoorF4
import Derived.Test.YtlmhfmlbkaabcaaGreatDoorF5
set_option linter.all false
set_option linter.unusedVariables false
set_option linter.unusedSimpArgs false
/-! The row and the card. -/
namespace Go.Proofs.YtlmhfmlbkaabcaaGreatDoor.debugNil
open Go.ChangeShapes Go.WideShapes Go.ChangeAt Go.RowKit

theorem tab : Tryz.prog.globalNamed "theodolite/fold.comparisons" = some 0 := by kernel_rfl
/-- A WORLD FOR THE WITNESS: the settled one, the table (block 0) holding what its initialiser lays. -/
noncomputable def laidWorld (os : Os) : World :=
  { World.holding Tryz.prog os ⟨#[], #[], []⟩ with heap := (World.holding Tryz.prog os ⟨#[], #[], []⟩).heap.modify 0 fun
      | .cells _ t frozen => .cells #[.int .u8 6, .bool false, .bool true, .bool false, .int .u8 7, .bool true, .bool false, .bool true, .int .u8 8, .bool true, .bool false, .bool false, .int .u8 9, .bool true, .bool true, .bool false, .int .u8 10, .bool false, .bool false, .bool true, .int .u8 11, .bool false, .bool true, .bool true] t frozen
      | o => o }
noncomputable def wargs : Array Value := #[.agg #[.int .u8 0, .int .i64 0, .string ⟨#[]⟩, .int .i64 0], .agg #[.slice none 0 0, .int .i64 0, .slice none 0 0, .slice none 0 0, .slice none 0 0, .slice none 0 0]]
theorem laid_met (os : Os) : laidMet Tryz.prog Rows.debugNilRow.laid ((laidWorld os).forCall (fun _ _ => 0) ⟨#[], wargs, []⟩).memory :=
  laidMet_of_run' 8 (by kernel_rfl) (by kernel_rfl)
theorem reads (os : Os) {H : Type} (enc : TypeId × Value → H) : ∃ places, DataW.whole enc Tryz.prog ((laidWorld os).forCall (fun _ _ => 0) ⟨#[], wargs, []⟩).memory Tryz.f3.params.toList Rows.debugNilSpec.vars false wargs.toList 8 =
    some ([.agg [.lit (.int .u8 0), .lit (.int .i64 0), .lit (.string []), .lit (.int .i64 0)], .agg [.nil, .lit (.int .i64 0), .nil, .nil, .nil, .nil]], [], places) :=
  ⟨[], by kernel_rfl⟩

set_option maxRecDepth 100000 in
theorem lifted (hworks : ∀ w, Calls Tryz.prog 5 #[] w fun e w' => e = .returned (.bool true) ∧ Below w.heap.size w w') (os : Os) (started : os.Started) (H : Type) (enc : TypeId × Value → H) (F : Stop.Interp) :
    ReturnsInHanded {} Tryz.checked os 3 .any ((OpenSpec.ofChange Rows.debugNilSpec).preRow enc Tryz.prog Tryz.f3 Rows.debugNilRow.domain false Rows.debugNilRow.laid) (((OpenSpec.ofChange Rows.debugNilSpec).at F).post enc Tryz.prog Tryz.f3 false true false false) := by
  obtain ⟨places, hx⟩ := reads os enc
  refine returnsInHanded_of_row (C := Tryz.checked) (s := OpenSpec.ofChange Rows.debugNilSpec) own started (by kernel_rfl) Tryz.func3
    (witness_row_at (enc := enc) (C := Tryz.checked) false (laidWorld os) wargs rfl (by kernel_rfl) (by kernel_rfl) (by kernel_rfl)
      (OpenSpec.preRow_of_cond 8 hx (by kernel_rfl) (fun k hk => by cases hk) (by kernel_rfl) (laid_met os))) ?_
  intro W base args ds gs before hval hW _ _ hsz _ _ _
  exact contract hworks H enc W base args ds gs before hval hW hsz

theorem band {a b : Bool} (h : a = true) (k : b = true) : (a && b) = true := by rw [h, k]; rfl
theorem closed : joinedFacts Tryz.prog 3 Tryz.f3 sb Rows.debugNilRow = true := by
  unfold joinedFacts
  exact (band (band (band (band (band (band (band (band (band (band (band (band (band (band (band (band (band (band (band (band (band (band (band (band (band (band (band (band (band (band (band jf0 jf1) jf2) jf3) jf4) jf5) jf6) jf7) jf8) jf9) jf10) jf11) jf12) jf13) jf14) jf15) jf16) jf17) jf18) jf19) jf20) jf21) jf22) jf23) jf24) jf25) jf26) jf27) (by rw [if_pos (show Rows.debugNilRow.domain.isEmpty = true from rfl)]; rfl)) jf29) jf30) jf31)
theorem hwrap : Tryz.f3.isWrapper Tryz.prog Rows.debugNilRow.wrapper Rows.debugNilRow.mainSum := by
  unfold Func.isWrapper; first | (rw [if_pos (by decide +kernel)]; kernel_rfl) | (rw [if_neg (by decide +kernel)]; exact ⟨rfl, rfl⟩)
theorem hinst : Tryz.f3.isInstance Tryz.prog Rows.debugNilRow.origin Rows.debugNilRow.targs := of_decide_eq_true (by kernel_rfl)
theorem named3' : Tryz.prog.funcNamed Rows.debugNilRow.func = some 3 := by kernel_rfl
set_option maxRecDepth 100000 in
theorem said (hworks : ∀ w, Calls Tryz.prog 5 #[] w fun e w' => e = .returned (.bool true) ∧ Below w.heap.size w w') : Rows.DebugNilSaid :=
  OpenClaim.holds_of_cond (p := Tryz.pinned) (s := OpenSpec.ofChange Rows.debugNilSpec) (c := Rows.debugNilRow) 3 Tryz.f3 rfl rfl rfl rfl rfl rfl rfl ⟨rfl, rfl, rfl, rfl, rfl⟩ rfl rfl rfl rfl rfl named3' Tryz.func3 closed
    hinst hwrap
    (fun os started H enc _ F => by rw [OpenClaim.pre_eq_preRow]; exact lifted hworks os started H enc F)
end Go.Proofs.YtlmhfmlbkaabcaaGreatDoor.debugNil
