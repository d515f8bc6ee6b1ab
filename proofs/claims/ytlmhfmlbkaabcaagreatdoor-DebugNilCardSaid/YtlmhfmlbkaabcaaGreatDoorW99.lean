/- works returns true in every world, and what lay before lies as it lay. No condition. -/
import Derived.Test.YtlmhfmlbkaabcaaGreatDoorW22
set_option linter.all false
set_option linter.unusedVariables false
set_option linter.unusedSimpArgs false
namespace Go.Proofs
open Go Go.Ab Go.RowKit
noncomputable section
/-- WHATEVER THE WORLD (its tape, its memory): works() of law 27 returns true, and what lay before lies as it lay. -/
theorem Tryz.works27 (w : World) : Calls Tryz.prog 5 #[] w fun e w' => e = .returned (.bool true) ∧ Below w.heap.size w w' := by
  let g : Gh := ⟨fun _ => none, fun _ _ => none⟩
  have h0 : ∀ j, (W27.c78.h0).get j = none := fun j => by
    show (mkH []).get j = none
    rw [mkH_get (by simp)]; rfl
  have R : RS g W27.c78.h0 w := ⟨fun id ao b o c h1 _ => (by rw [h0] at h1; cases h1), fun id id' ao ao' b o c o' c' h1 _ _ _ => (by rw [h0] at h1; cases h1), fun b i v hI => (by cases hI), fun id _ => ⟨rfl, h0 id⟩, fun id hid => absurd (h0 id) hid⟩
  obtain ⟨_, hC⟩ := W27.c78_ok.2 g w [] .nil R (fun b cs hb => by cases hb)
  refine Calls.mono (show Calls Tryz.prog 5 #[] w _ from hC) fun e w' hh => ?_
  obtain ⟨g', u, rfl, X, R', hv⟩ := hh
  have hv' : Rel g' (.bool true) u := hv
  cases hv'
  refine ⟨rfl, X.os, X.tape, X.output, X.size, fun k hk => X.fr k hk fun ⟨id, ao, o, c, h1, _⟩ => ?_⟩
  rw [h0] at h1; cases h1
end
end Go.Proofs
