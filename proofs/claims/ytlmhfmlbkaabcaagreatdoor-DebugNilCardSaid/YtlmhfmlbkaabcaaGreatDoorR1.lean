/- The call of DebugNil at any arguments that can be read returns true and leaves them. No condition but that works returns true. -/
import Derived.Test.YtlmhfmlbkaabcaaGreatDoorRows
import Derived.Test.YtlmhfmlbkaabcaaGreatDoorU3
import Derived.ProofKit
import Derived.OpenShut
import Derived.Carry
import Derived.Lib.SmallJoins
import Derived.SizedLaws
import Derived.Deep.DeepHandedRow
import Derived.Lib.LaidTab
set_option linter.all false
set_option linter.unusedVariables false
set_option linter.unusedSimpArgs false
/-! What the walk gives, for every argument. -/
namespace Go.Proofs.YtlmhfmlbkaabcaaGreatDoor.debugNil
open Go.ChangeShapes Go.WideShapes Go.ChangeAt Go.RowKit Go.Joins U
open Go.ChangeMaps (open_string shut_string)

theorem own : ownKnob Tryz.prog.godebug = none := by kernel_rfl
theorem laidOut : laidOutB Tryz.prog = true := by kernel_rfl
theorem r23 : Tryz.prog.readableRec 23 = true := by kernel_rfl
theorem r30 : Tryz.prog.readableRec 30 = true := by kernel_rfl
theorem s23 : (23 : Nat) < Tryz.prog.types.size := of_decide_eq_true (by kernel_rfl)
theorem s30 : (30 : Nat) < Tryz.prog.types.size := of_decide_eq_true (by kernel_rfl)
theorem trod_below {H : Type} {enc : TypeId × Value → H} {P : Program} {W : World} {sp : Nat → Bool} {held : Bool} {t : TypeId} {v : Value} {d : DataW H} {p : List MemPlace} (h : DataW.Trod enc P W 0 sp held t v d p) : ∀ x ∈ p, x.block < W.heap.size := by
  obtain ⟨m, hm⟩ := h
  exact DataW.trod_lt m _ _ _ hm
theorem list4 {l : List Value} (h : l.length = 4) : ∃ a b c d, l = [a, b, c, d] := by
  match l, h with
  | [a, b, c, d], _ => exact ⟨a, b, c, d, rfl⟩
theorem cmd_of {H : Type} {enc : TypeId × Value → H} {w : World} {base : Nat} {spare : Nat → Bool} {held : Bool} {n : Nat} {cs : Array Value} {y : DataW H × List MemPlace} (h : DataW.trod enc Tryz.prog w base spare held n 23 cs.toList = some y) (hw : Light Tryz.prog 23 y.1) :
    ∃ (kd nn fu : Int) (nm : ByteArray), cs = #[.int .u8 kd, .int .i64 nn, .string nm, .int .i64 fu] := by
  obtain ⟨_, _, _, _, hl, _, _⟩ := DataW.trod_struct Tryz.underlying23 h
  obtain ⟨n0, y0, h0, w0⟩ := fld Tryz.underlying23 h hw 0 _ rfl
  obtain ⟨n1, y1, h1, w1⟩ := fld Tryz.underlying23 h hw 1 _ rfl
  obtain ⟨n2, y2, h2, w2⟩ := fld Tryz.underlying23 h hw 2 _ rfl
  obtain ⟨n3, y3, h3, w3⟩ := fld Tryz.underlying23 h hw 3 _ rfl
  obtain ⟨x0, g0⟩ := rInt (t := 5) Tryz.underlying5 (c1 5 (by simp)) h0
  obtain ⟨x1, g1⟩ := rInt (t := 3) Tryz.underlying3 (c1 3 (by simp)) h1
  obtain ⟨x2, g2, _⟩ := rStr (t := 9) Tryz.underlying9 (c1 9 (by simp)) h2
  obtain ⟨x3, g3⟩ := rInt (t := 3) Tryz.underlying3 (c1 3 (by simp)) h3
  have hc : Tryz.prog.cellsOf 23 = 4 := by kernel_rfl
  rw [hc] at hl
  obtain ⟨l⟩ := cs
  obtain ⟨a, b, c, d, rfl⟩ := list4 hl
  obtain rfl : a = .int .u8 x0 := Option.some.inj g0
  obtain rfl : b = .int .i64 x1 := Option.some.inj g1
  obtain rfl : c = .string x2 := Option.some.inj g2
  obtain rfl : d = .int .i64 x3 := Option.some.inj g3
  exact ⟨_, _, _, _, rfl⟩

set_option maxRecDepth 100000 in
/-- WHAT THE WALK GIVES, FOR EVERY ARGUMENT AND EVERY WORLD. -/
theorem contract (hworks : ∀ w, Calls Tryz.prog 5 #[] w fun e w' => e = .returned (.bool true) ∧ Below w.heap.size w w') (H : Type) (enc : TypeId × Value → H) (W : World) (base : Nat) (args : Array Value) (ds gs : List (DataW H)) (before : List MemPlace)
    (hval : ∀ (j : Nat) t v, Tryz.f3.params[j]? = some t → args[j]? = some v → Value.okWide Tryz.prog W .any base t v)
    (hW : DataW.Whole enc Tryz.prog Tryz.f3.params.toList Rows.debugNilSpec.vars false W args.toList ds gs before)
    (hsz : (DataW.weightsEach Tryz.prog (Tryz.f3.params.toList ++ (OpenSpec.ofChange Rows.debugNilSpec).bare.plain.varTypes Tryz.prog) (ds ++ gs)).all (· ≤ reachBytes) = true) :
    Calls Tryz.prog 3 args W fun e W' => ∃ v, e = .returned v ∧ Rows.debugNilSpec.post enc Tryz.prog Tryz.f3 false true false false W args v W' := by
  have hW' := hW
  obtain ⟨p, q, hA0, hV, rfl, hfz, hnd⟩ := hW
  have hA : DataW.TrodAll enc Tryz.prog W 0 (fun _ => true) true Tryz.f3.params.toList args.toList ds p := hA0
  rw [Tryz.params3] at hA hval hsz
  obtain ⟨v0, vs0, d0, ds0, p0, q0, hargs, rfl, rfl, h0, r0⟩ := trodAll_cons hA
  obtain ⟨v1, vs1, d1, ds1, p1, q1, rfl, rfl, rfl, h1, r1⟩ := trodAll_cons r0
  obtain ⟨rfl, rfl, rfl⟩ := trodAll_nil r1
  obtain ⟨l⟩ := args
  obtain rfl : l = [v0, v1] := hargs
  obtain ⟨rfl, rfl⟩ := trodVars_none hV
  have k0 := h0
  have lt0 : ∀ x ∈ p0, x.block < W.heap.size := trod_below k0
  have k1 := h1
  have lt1 : ∀ x ∈ p1, x.block < W.heap.size := trod_below k1
  have hv0 : Value.okWide Tryz.prog W .any base 23 v0 := hval 0 23 v0 (by simp) (by simp)
  have hv1 : Value.okWide Tryz.prog W .any base 30 v1 := hval 1 30 v1 (by simp) (by simp)
  obtain ⟨cs0, rfl, _⟩ := okWide_struct Tryz.underlying23 hv0
  obtain ⟨cs1, rfl, _⟩ := okWide_struct Tryz.underlying30 hv1
  have l0 : Light Tryz.prog 23 d0 := fun z hz => of_decide_eq_true (List.all_eq_true.1 hsz z (DataW.weights_mem_each (j := 0) (t := 23) (d := d0) rfl rfl z hz))
  have l1 : Light Tryz.prog 30 d1 := fun z hz => of_decide_eq_true (List.all_eq_true.1 hsz z (DataW.weights_mem_each (j := 1) (t := 30) (d := d1) rfl rfl z hz))
  obtain ⟨m0, hm0⟩ := h0
  obtain ⟨m1, hm1⟩ := h1
  obtain ⟨kd, nn, fu, nm, rfl⟩ := cmd_of (y := (d0, p0)) hm0 l0
  obtain ⟨code, start, rows, unwinds, places, points, e, z0, ⟨s, rfl⟩, z2, z3, z4, z5⟩ := image_of (y := (d1, p1)) hm1 l1
  obtain rfl : cs1 = #[code, .int .i64 s, rows, unwinds, places, points] := by injection e
  clear hA0 hsz hval
  refine (Tryz.debugNil hworks W W.heap.size W (Ag.refl W) kd nn fu nm s code rows unwinds places points z0 z2 z3 z4 z5).mono fun e W' ⟨he, bel⟩ => ?_
  subst he
  exact ⟨_, rfl, _, _, _, [], _, [], hW', trodAll_mk1 (shut_bool Tryz.underlying4 _), trodAll_cons_mk (Below.trod laidOut r23 s23 k0 bel lt0) (trodAll_cons_mk (Below.trod laidOut r30 s30 k1 bel lt1) trodAll_mk0), rfl, bel.frame _, fun h => by cases h⟩
end Go.Proofs.YtlmhfmlbkaabcaaGreatDoor.debugNil
