/- Walks: the law itself returns true, where works does. The image is well formed in memory. -/
import Derived.Test.YtlmhfmlbkaabcaaGreatDoorU1
import Derived.KernelRfl
import Derived.Deep.RegionWith
import Derived.Deep.DeepCutAuto
import Derived.Deep.QuietTactic
import Derived.BigQuiet
import Derived.OwnWalk
import Derived.Laws.AppendOwn
import Derived.StillTailTactics
import Derived.Test.YtlmhfmlbkaabcaaGreatDoorU2
set_option linter.all false
set_option linter.unusedVariables false
set_option linter.unusedSimpArgs false
/-! The image, as it is read. -/
namespace Go.Proofs
open Go Go.RowKit U
namespace U
section
variable {H : Type} {enc : TypeId × Value → H} {w : World} {base : Nat} {spare : Nat → Bool} {held : Bool} {n : Nat} {cs : List Value} {y : DataW H × List MemPlace}
theorem c1 : ∀ t ∈ [2, 3, 5, 9, 115, 206, 51, 134, 47, 48, 120, 24, 25, 26, 27, 28], Tryz.prog.cellsOf t = 1 := by
  have h : ([2, 3, 5, 9, 115, 206, 51, 134, 47, 48, 120, 24, 25, 26, 27, 28].all fun t => Tryz.prog.cellsOf t == 1) = true := by kernel_rfl
  intro t ht
  simpa using List.all_eq_true.1 h t ht
theorem c255 : Tryz.prog.cellsOf 255 = 2 := by kernel_rfl
theorem b255 : Tryz.prog.bytesOf 255 = 16 := by kernel_rfl
theorem c208 : Tryz.prog.cellsOf 208 = 3 := by kernel_rfl
theorem c136 : Tryz.prog.cellsOf 136 = 6 := by kernel_rfl
theorem c101 : Tryz.prog.cellsOf 101 = 3 := by kernel_rfl
theorem c50 : Tryz.prog.cellsOf 50 = 5 := by kernel_rfl
theorem c122 : Tryz.prog.cellsOf 122 = 3 := by kernel_rfl
theorem c114 : Tryz.prog.cellsOf 114 = 2 := by kernel_rfl
theorem c132 : Tryz.prog.cellsOf 132 = 2 := by kernel_rfl
theorem c117 : Tryz.prog.cellsOf 117 = 4 := by kernel_rfl
theorem loc_of (h : DataW.trod enc Tryz.prog w base spare held n 255 cs = some y) (hw : Light Tryz.prog 255 y.1) : ∀ j, j < 2 → ∃ u, cs[j]? = some u ∧ locP j u := by
  obtain ⟨n0, y0, h0, w0⟩ := fld Tryz.underlying255 h hw 0 _ rfl
  obtain ⟨n1, y1, h1, w1⟩ := fld Tryz.underlying255 h hw 1 _ rfl
  obtain ⟨x0, g0⟩ := rInt (t := 5) Tryz.underlying5 (c1 5 (by simp)) h0
  obtain ⟨x1, g1⟩ := rInt (t := 2) Tryz.underlying2 (c1 2 (by simp)) h1
  intro j hj
  match j, hj with
  | 0, _ => exact ⟨_, g0, x0, rfl⟩
  | 1, _ => exact ⟨_, g1, x1, rfl⟩
theorem span_of (h : DataW.trod enc Tryz.prog w base spare held n 208 cs = some y) (hw : Light Tryz.prog 208 y.1) : ∀ j, j < 3 → ∃ u, cs[j]? = some u ∧ spanP w w.heap.size j u := by
  obtain ⟨n0, y0, h0, w0⟩ := fld Tryz.underlying208 h hw 0 _ rfl
  obtain ⟨n1, y1, h1, w1⟩ := fld Tryz.underlying208 h hw 1 _ rfl
  obtain ⟨n2, y2, h2, w2⟩ := fld Tryz.underlying208 h hw 2 _ rfl
  obtain ⟨x0, g0⟩ := rInt (t := 3) Tryz.underlying3 (c1 3 (by simp)) h0
  obtain ⟨x1, g1⟩ := rInt (t := 3) Tryz.underlying3 (c1 3 (by simp)) h1
  obtain ⟨v2, g2, s2, k2⟩ := rSl (t := 206) (e := 255) (E := 2) (p := locP) Tryz.underlying206 (c1 206 (by simp)) c255 (by decide) h2 w2 (fun n cs y h hw _ => loc_of h hw)
  intro j hj
  match j, hj with
  | 0, _ => exact ⟨_, g0, x0, rfl⟩
  | 1, _ => exact ⟨_, g1, x1, rfl⟩
  | 2, _ => exact ⟨_, g2, s2, by rw [b255] at k2; exact k2⟩
theorem spans_of (h : DataW.trod enc Tryz.prog w base spare held n 51 cs = some y) (hw : Light Tryz.prog 51 y.1) (hl : cs.length = 1) : ∀ j, j < 1 → ∃ u, cs[j]? = some u ∧ spansP w w.heap.size u := by
  obtain ⟨v, rfl, s, _⟩ := sl_of (t := 51) (e := 208) (E := 3) (p := spanP w w.heap.size) Tryz.underlying51 c208 (by decide) h hw (fun n cs y h hw _ => span_of h hw)
  intro j hj
  match j, hj with
  | 0, _ => exact ⟨v, rfl, s⟩
theorem str_of (h : DataW.trod enc Tryz.prog w base spare held n 9 cs = some y) : ∀ j, j < 1 → ∃ u, cs[j]? = some u ∧ IsS u := by
  obtain ⟨s, rfl, _, hs⟩ := DataW.trod_string Tryz.underlying9 h
  intro j hj
  match j, hj with
  | 0, _ => exact ⟨_, rfl, s, rfl, hs⟩
theorem int_of (h : DataW.trod enc Tryz.prog w base spare held n 3 cs = some y) : ∀ j, j < 1 → ∃ u, cs[j]? = some u ∧ IsI u := by
  obtain ⟨x, rfl, _⟩ := DataW.trod_int Tryz.underlying3 h
  intro j hj
  match j, hj with
  | 0, _ => exact ⟨_, rfl, x, rfl⟩
theorem drop3 {cs : List Value} {o : Nat} {u : Value} (h : ((cs.drop 1).take 3)[o]? = some u) : cs[1 + o]? = some u := by
  rw [List.getElem?_take] at h
  split at h
  · rw [List.getElem?_drop] at h; exact h
  · cases h
theorem var_of (h : DataW.trod enc Tryz.prog w base spare held n 136 cs = some y) (hw : Light Tryz.prog 136 y.1) : ∀ j, j < 6 → ∃ u, cs[j]? = some u ∧ varP w w.heap.size j u := by
  obtain ⟨n0, y0, h0, w0⟩ := fld Tryz.underlying136 h hw 0 _ rfl
  obtain ⟨n1, y1, h1, w1⟩ := fld Tryz.underlying136 h hw 1 _ rfl
  obtain ⟨n2, y2, h2, w2⟩ := fld Tryz.underlying136 h hw 2 _ rfl
  obtain ⟨n3, y3, h3, w3⟩ := fld Tryz.underlying136 h hw 3 _ rfl
  obtain ⟨x0, g0, z0⟩ := rStr (t := 9) Tryz.underlying9 (c1 9 (by simp)) h0
  obtain ⟨x4, g4⟩ := rInt (t := 3) Tryz.underlying3 (c1 3 (by simp)) h2
  obtain ⟨v5, g5, s5, _⟩ := rSl (t := 134) (e := 9) (E := 1) (p := fun _ => IsS) Tryz.underlying134 (c1 134 (by simp)) (c1 9 (by simp)) (by decide) h3 w3 (fun n cs y h hw _ => str_of h)
  have h1' : DataW.trod enc Tryz.prog w base spare held n1 101 ((cs.drop 1).take (Tryz.prog.cellsOf 101)) = some y1 := h1
  rw [c101] at h1'
  obtain ⟨m0, q0, k0, _⟩ := fld Tryz.underlying101 h1' w1 0 _ rfl
  obtain ⟨m1, q1, k1, _⟩ := fld Tryz.underlying101 h1' w1 1 _ rfl
  obtain ⟨m2, q2, k2, _⟩ := fld Tryz.underlying101 h1' w1 2 _ rfl
  obtain ⟨x1, g1⟩ := rInt (t := 5) Tryz.underlying5 (c1 5 (by simp)) k0
  obtain ⟨x2, g2⟩ := rInt (t := 3) Tryz.underlying3 (c1 3 (by simp)) k1
  obtain ⟨x3, g3, z3⟩ := rStr (t := 9) Tryz.underlying9 (c1 9 (by simp)) k2
  intro j hj
  match j, hj with
  | 0, _ => exact ⟨_, g0, x0, rfl, z0⟩
  | 1, _ => exact ⟨_, drop3 g1, x1, rfl⟩
  | 2, _ => exact ⟨_, drop3 g2, x2, rfl⟩
  | 3, _ => exact ⟨_, drop3 g3, x3, rfl, z3⟩
  | 4, _ => exact ⟨_, g4, x4, rfl⟩
  | 5, _ => exact ⟨_, g5, s5⟩
theorem place_of (h : DataW.trod enc Tryz.prog w base spare held n 50 cs = some y) (hw : Light Tryz.prog 50 y.1) : ∀ j, j < 5 → ∃ u, cs[j]? = some u ∧ placeP w w.heap.size j u := by
  obtain ⟨n0, y0, h0, w0⟩ := fld Tryz.underlying50 h hw 0 _ rfl
  obtain ⟨n1, y1, h1, w1⟩ := fld Tryz.underlying50 h hw 1 _ rfl
  obtain ⟨n2, y2, h2, w2⟩ := fld Tryz.underlying50 h hw 2 _ rfl
  obtain ⟨n3, y3, h3, w3⟩ := fld Tryz.underlying50 h hw 3 _ rfl
  obtain ⟨n4, y4, h4, w4⟩ := fld Tryz.underlying50 h hw 4 _ rfl
  obtain ⟨x0, g0, z0⟩ := rStr (t := 9) Tryz.underlying9 (c1 9 (by simp)) h0
  obtain ⟨x1, g1⟩ := rInt (t := 3) Tryz.underlying3 (c1 3 (by simp)) h1
  obtain ⟨x2, g2⟩ := rInt (t := 3) Tryz.underlying3 (c1 3 (by simp)) h2
  obtain ⟨v3, g3, s3, _⟩ := rSl (t := 47) (e := 136) (E := 6) (p := varP w w.heap.size) Tryz.underlying47 (c1 47 (by simp)) c136 (by decide) h3 w3 (fun n cs y h hw _ => var_of h hw)
  obtain ⟨v4, g4, s4, _⟩ := rSl (t := 48) (e := 51) (E := 1) (p := fun _ => spansP w w.heap.size) Tryz.underlying48 (c1 48 (by simp)) (c1 51 (by simp)) (by decide) h4 w4 (fun n cs y h hw hl => spans_of h hw hl)
  intro j hj
  match j, hj with
  | 0, _ => exact ⟨_, g0, x0, rfl, z0⟩
  | 1, _ => exact ⟨_, g1, x1, rfl⟩
  | 2, _ => exact ⟨_, g2, x2, rfl⟩
  | 3, _ => exact ⟨_, g3, s3⟩
  | 4, _ => exact ⟨_, g4, s4⟩
theorem point_of (h : DataW.trod enc Tryz.prog w base spare held n 122 cs = some y) (hw : Light Tryz.prog 122 y.1) : ∀ j, j < 3 → ∃ u, cs[j]? = some u ∧ pointP w w.heap.size j u := by
  obtain ⟨n0, y0, h0, w0⟩ := fld Tryz.underlying122 h hw 0 _ rfl
  obtain ⟨n1, y1, h1, w1⟩ := fld Tryz.underlying122 h hw 1 _ rfl
  obtain ⟨n2, y2, h2, w2⟩ := fld Tryz.underlying122 h hw 2 _ rfl
  obtain ⟨x0, g0⟩ := rInt (t := 3) Tryz.underlying3 (c1 3 (by simp)) h0
  obtain ⟨x1, g1⟩ := rInt (t := 3) Tryz.underlying3 (c1 3 (by simp)) h1
  obtain ⟨v2, g2, s2, _⟩ := rSl (t := 120) (e := 3) (E := 1) (p := fun _ => IsI) Tryz.underlying120 (c1 120 (by simp)) (c1 3 (by simp)) (by decide) h2 w2 (fun n cs y h hw _ => int_of h)
  intro j hj
  match j, hj with
  | 0, _ => exact ⟨_, g0, x0, rfl⟩
  | 1, _ => exact ⟨_, g1, x1, rfl⟩
  | 2, _ => exact ⟨_, g2, s2⟩
theorem row_of (h : DataW.trod enc Tryz.prog w base spare held n 114 cs = some y) (hw : Light Tryz.prog 114 y.1) : ∀ j, j < 2 → ∃ u, cs[j]? = some u ∧ row2 j u := by
  obtain ⟨n0, y0, h0, w0⟩ := fld Tryz.underlying114 h hw 0 _ rfl
  obtain ⟨n1, y1, h1, w1⟩ := fld Tryz.underlying114 h hw 1 _ rfl
  obtain ⟨x0, g0⟩ := rInt (t := 3) Tryz.underlying3 (c1 3 (by simp)) h0
  obtain ⟨x1, g1⟩ := rInt (t := 3) Tryz.underlying3 (c1 3 (by simp)) h1
  intro j hj
  match j, hj with
  | 0, _ => exact ⟨_, g0, x0, rfl⟩
  | 1, _ => exact ⟨_, g1, x1, rfl⟩
theorem saved_of (h : DataW.trod enc Tryz.prog w base spare held n 132 cs = some y) (hw : Light Tryz.prog 132 y.1) : ∀ j, j < 2 → ∃ u, cs[j]? = some u ∧ row2 j u := by
  obtain ⟨n0, y0, h0, w0⟩ := fld Tryz.underlying132 h hw 0 _ rfl
  obtain ⟨n1, y1, h1, w1⟩ := fld Tryz.underlying132 h hw 1 _ rfl
  obtain ⟨x0, g0⟩ := rInt (t := 3) Tryz.underlying3 (c1 3 (by simp)) h0
  obtain ⟨x1, g1⟩ := rInt (t := 2) Tryz.underlying2 (c1 2 (by simp)) h1
  intro j hj
  match j, hj with
  | 0, _ => exact ⟨_, g0, x0, rfl⟩
  | 1, _ => exact ⟨_, g1, x1, rfl⟩
theorem unw_of (h : DataW.trod enc Tryz.prog w base spare held n 117 cs = some y) (hw : Light Tryz.prog 117 y.1) : ∀ j, j < 4 → ∃ u, cs[j]? = some u ∧ unw w w.heap.size j u := by
  obtain ⟨n0, y0, h0, w0⟩ := fld Tryz.underlying117 h hw 0 _ rfl
  obtain ⟨n1, y1, h1, w1⟩ := fld Tryz.underlying117 h hw 1 _ rfl
  obtain ⟨n2, y2, h2, w2⟩ := fld Tryz.underlying117 h hw 2 _ rfl
  obtain ⟨n3, y3, h3, w3⟩ := fld Tryz.underlying117 h hw 3 _ rfl
  obtain ⟨x0, g0⟩ := rInt (t := 3) Tryz.underlying3 (c1 3 (by simp)) h0
  obtain ⟨x1, g1⟩ := rInt (t := 3) Tryz.underlying3 (c1 3 (by simp)) h1
  obtain ⟨x2, g2⟩ := rInt (t := 2) Tryz.underlying2 (c1 2 (by simp)) h2
  obtain ⟨v3, g3, s3, _⟩ := rSl (t := 115) (e := 132) (E := 2) (p := row2) Tryz.underlying115 (c1 115 (by simp)) c132 (by decide) h3 w3 (fun n cs y h hw _ => saved_of h hw)
  intro j hj
  match j, hj with
  | 0, _ => exact ⟨_, g0, x0, rfl⟩
  | 1, _ => exact ⟨_, g1, x1, rfl⟩
  | 2, _ => exact ⟨_, g2, x2, rfl⟩
  | 3, _ => exact ⟨_, g3, s3⟩
theorem list6 {l : List Value} (h : l.length = 6) : ∃ a b c d e f, l = [a, b, c, d, e, f] := by
  match l, h with
  | [a, b, c, d, e, f], _ => exact ⟨a, b, c, d, e, f, rfl⟩
/-- An image's parts. -/
def imageP (w : World) (B : Nat) (v : Value) : Prop :=
  ∃ code start rows unwinds places points, v = .agg #[code, start, rows, unwinds, places, points] ∧ Sl w B 1 (fun _ => IsB) code ∧ IsI start ∧ Sl w B 2 row2 rows ∧ Sl w B 4 (unw w B) unwinds ∧ Sl w B 5 (placeP w B) places ∧ Sl w B 3 (pointP w B) points
theorem image_of {cs : Array Value} (h : DataW.trod enc Tryz.prog w base spare held n 30 cs.toList = some y) (hw : Light Tryz.prog 30 y.1) : imageP w w.heap.size (.agg cs) := by
  obtain ⟨_, _, _, _, hl, _, _⟩ := DataW.trod_struct Tryz.underlying30 h
  obtain ⟨n0, y0, h0, w0⟩ := fld Tryz.underlying30 h hw 0 _ rfl
  obtain ⟨n1, y1, h1, w1⟩ := fld Tryz.underlying30 h hw 1 _ rfl
  obtain ⟨n2, y2, h2, w2⟩ := fld Tryz.underlying30 h hw 2 _ rfl
  obtain ⟨n3, y3, h3, w3⟩ := fld Tryz.underlying30 h hw 3 _ rfl
  obtain ⟨n4, y4, h4, w4⟩ := fld Tryz.underlying30 h hw 4 _ rfl
  obtain ⟨n5, y5, h5, w5⟩ := fld Tryz.underlying30 h hw 5 _ rfl
  obtain ⟨v0, g0, s0, _⟩ := rSl (t := 24) (e := 5) (E := 1) (p := fun _ => IsB) Tryz.underlying24 (c1 24 (by simp)) (c1 5 (by simp)) (by decide) h0 w0 (fun n cs y h hw _ => by
    obtain ⟨x, rfl, _⟩ := DataW.trod_int Tryz.underlying5 h
    intro j hj
    match j, hj with
    | 0, _ => exact ⟨_, rfl, x, rfl⟩)
  obtain ⟨x1, g1⟩ := rInt (t := 3) Tryz.underlying3 (c1 3 (by simp)) h1
  obtain ⟨v2, g2, s2, _⟩ := rSl (t := 25) (e := 114) (E := 2) (p := row2) Tryz.underlying25 (c1 25 (by simp)) c114 (by decide) h2 w2 (fun n cs y h hw _ => row_of h hw)
  obtain ⟨v3, g3, s3, _⟩ := rSl (t := 26) (e := 117) (E := 4) (p := unw w w.heap.size) Tryz.underlying26 (c1 26 (by simp)) c117 (by decide) h3 w3 (fun n cs y h hw _ => unw_of h hw)
  obtain ⟨v4, g4, s4, _⟩ := rSl (t := 27) (e := 50) (E := 5) (p := placeP w w.heap.size) Tryz.underlying27 (c1 27 (by simp)) c50 (by decide) h4 w4 (fun n cs y h hw _ => place_of h hw)
  obtain ⟨v5, g5, s5, _⟩ := rSl (t := 28) (e := 122) (E := 3) (p := pointP w w.heap.size) Tryz.underlying28 (c1 28 (by simp)) c122 (by decide) h5 w5 (fun n cs y h hw _ => point_of h hw)
  have hc30 : Tryz.prog.cellsOf 30 = 6 := by kernel_rfl
  rw [hc30] at hl
  obtain ⟨l⟩ := cs
  obtain ⟨a0, a1, a2, a3, a4, a5, rfl⟩ := list6 hl
  obtain rfl : a0 = v0 := Option.some.inj g0
  obtain rfl : a1 = .int .i64 x1 := Option.some.inj g1
  obtain rfl : a2 = v2 := Option.some.inj g2
  obtain rfl : a3 = v3 := Option.some.inj g3
  obtain rfl : a4 = v4 := Option.some.inj g4
  obtain rfl : a5 = v5 := Option.some.inj g5
  exact ⟨_, _, _, _, _, _, rfl, s0, ⟨x1, rfl⟩, s2, s3, s4, s5⟩
end
end U
end Go.Proofs
/-! expr: made. -/
namespace Go.Proofs
open Go Go.RowKit U
def U.MadeAt (kd n : Int) (v : Value) : Prop := ∀ w : World, Calls Tryz.prog 264 #[.agg #[.int .u8 kd, .int .i64 n]] w fun e w' => e = .returned v ∧ Below w.heap.size w w'
set_option maxHeartbeats 1000000 in
theorem Tryz.made1 (n : Int) : MadeAt 1 n (.tuple #[.iface 483 (.int .i64 n), .bool true]) := by
  intro w
  go_enter Tryz.func264, Tryz.ntmps264
  go_wp2
  go_ret2; exact ⟨rfl, (Below.refl _ _).alloc (Nat.le_refl _) _⟩
set_option maxHeartbeats 1000000 in
theorem Tryz.made3 (n : Int) : MadeAt 3 n (.tuple #[.iface 485 (.int .i64 n), .bool true]) := by
  intro w
  go_enter Tryz.func264, Tryz.ntmps264
  go_wp2
  go_ret2; exact ⟨rfl, (Below.refl _ _).alloc (Nat.le_refl _) _⟩
set_option maxHeartbeats 1000000 in
theorem Tryz.made0 (kd n : Int) (h1 : kd ≠ 1) (h2 : kd ≠ 2) (h3 : kd ≠ 3) (h4 : kd ≠ 4) (h5 : kd ≠ 5) (h6 : kd ≠ 6) : MadeAt kd n (.tuple #[.nilIface, .bool false]) := by
  intro w
  have g1 : (kd == 1) = false := by simpa using h1
  have g2 : (kd == 2) = false := by simpa using h2
  have g3 : (kd == 3) = false := by simpa using h3
  have g4 : (kd == 4) = false := by simpa using h4
  have g5 : (kd == 5) = false := by simpa using h5
  have g6 : (kd == 6) = false := by simpa using h6
  go_enter Tryz.func264, Tryz.ntmps264
  go_wp2
  go_ret2; exact ⟨rfl, (Below.refl _ _).alloc (Nat.le_refl _) _⟩
set_option maxHeartbeats 1000000 in
theorem Tryz.made4 (n : Int) : MadeAt 4 n (.tuple #[.iface 486 (.agg #[]), .bool (n == 0)]) := by
  intro w
  go_enter Tryz.func264, Tryz.ntmps264
  go_wp2
  go_quiet (fail)
  go_wp2
  go_ret2; exact ⟨rfl, below_drewN ((Below.refl _ _).alloc (Nat.le_refl _) _) _⟩
set_option maxHeartbeats 1000000 in
theorem Tryz.made5 (n : Int) : MadeAt 5 n (.tuple #[.iface 487 (.agg #[]), .bool (n == 0)]) := by
  intro w
  go_enter Tryz.func264, Tryz.ntmps264
  go_wp2
  go_quiet (fail)
  go_wp2
  go_ret2; exact ⟨rfl, below_drewN ((Below.refl _ _).alloc (Nat.le_refl _) _) _⟩
set_option maxHeartbeats 1000000 in
theorem Tryz.made6 (n : Int) : MadeAt 6 n (.tuple #[.iface 488 (.agg #[]), .bool (n == 0)]) := by
  intro w
  go_enter Tryz.func264, Tryz.ntmps264
  go_wp2
  go_quiet (fail)
  go_wp2
  go_ret2; exact ⟨rfl, below_drewN ((Below.refl _ _).alloc (Nat.le_refl _) _) _⟩
set_option maxHeartbeats 1000000 in
theorem Tryz.made2a (n : Int) (h : n < 0) : MadeAt 2 n (.tuple #[.iface 484 (.int .i64 n), .bool false]) := by
  intro w
  have d : decide (0 ≤ n) = false := by simpa using h
  go_enter Tryz.func264, Tryz.ntmps264
  go_wp2
  go_quiet (fail)
  go_wp2
  go_ret2; exact ⟨rfl, below_drewN ((Below.refl _ _).alloc (Nat.le_refl _) _) _⟩
set_option maxHeartbeats 1000000 in
theorem Tryz.made2b (n : Int) (h : 0 ≤ n) : MadeAt 2 n (.tuple #[.iface 484 (.int .i64 n), .bool (decide (n < 16))]) := by
  intro w
  have d : decide (0 ≤ n) = true := by simpa using h
  go_enter Tryz.func264, Tryz.ntmps264
  go_wp2
  go_quiet (fail)
  go_wp2
  go_ret2; exact ⟨rfl, below_drewN ((Below.refl _ _).alloc (Nat.le_refl _) _) _⟩
/-- What a step is made of: none, or one that is known. -/
theorem U.made_cases (kd n : Int) : (∃ u, MadeAt kd n (.tuple #[u, .bool false])) ∨ MadeAt kd n (.tuple #[.iface 483 (.int .i64 n), .bool true]) ∨ MadeAt kd n (.tuple #[.iface 484 (.int .i64 n), .bool true]) ∨ MadeAt kd n (.tuple #[.iface 485 (.int .i64 n), .bool true]) ∨
    MadeAt kd n (.tuple #[.iface 486 (.agg #[]), .bool true]) ∨ MadeAt kd n (.tuple #[.iface 487 (.agg #[]), .bool true]) ∨ MadeAt kd n (.tuple #[.iface 488 (.agg #[]), .bool true]) := by
  by_cases h1 : kd = 1
  · subst h1; exact .inr (.inl (Tryz.made1 n))
  by_cases h2 : kd = 2
  · subst h2
    by_cases h : n < 0
    · exact .inl ⟨_, Tryz.made2a n h⟩
    · have := Tryz.made2b n (by omega)
      by_cases h' : n < 16
      · rw [decide_eq_true h'] at this; exact .inr (.inr (.inl this))
      · rw [decide_eq_false h'] at this; exact .inl ⟨_, this⟩
  by_cases h3 : kd = 3
  · subst h3; exact .inr (.inr (.inr (.inl (Tryz.made3 n))))
  by_cases h4 : kd = 4
  · subst h4
    have := Tryz.made4 n
    by_cases h : n = 0
    · rw [show (n == 0) = true by simpa using h] at this; exact .inr (.inr (.inr (.inr (.inl this))))
    · rw [show (n == 0) = false by simpa using h] at this; exact .inl ⟨_, this⟩
  by_cases h5 : kd = 5
  · subst h5
    have := Tryz.made5 n
    by_cases h : n = 0
    · rw [show (n == 0) = true by simpa using h] at this; exact .inr (.inr (.inr (.inr (.inr (.inl this)))))
    · rw [show (n == 0) = false by simpa using h] at this; exact .inl ⟨_, this⟩
  by_cases h6 : kd = 6
  · subst h6
    have := Tryz.made6 n
    by_cases h : n = 0
    · rw [show (n == 0) = true by simpa using h] at this; exact .inr (.inr (.inr (.inr (.inr (.inr this)))))
    · rw [show (n == 0) = false by simpa using h] at this; exact .inl ⟨_, this⟩
  · exact .inl ⟨_, Tryz.made0 kd n h1 h2 h3 h4 h5 h6⟩
end Go.Proofs
/-! expr: doers, Right. -/
namespace Go.Proofs
open Go Go.RowKit U
namespace U
theorem own_below {w w1 : World} {base : Nat} {e : TypeId} {size n : Nat} {v : Value} {xs : List Value} (h : w.ownsRow base e size v n xs) (hb : Below w.heap.size w w1) : w1.ownsRow base e size v n xs :=
  have hg : w.grownBy w1 none := ⟨hb.os, hb.tape, hb.output, hb.size, fun i hi _ => hb.block i hi⟩
  h.kept hg (by cases v.ownBlock <;> simp)
theorem own_nil (W : World) (base : Nat) (e : TypeId) (size : Nat) : W.ownsRow base e size (.slice none 0 0) 0 [] := ⟨by simp, .inl ⟨rfl, rfl⟩⟩
theorem own_base {w : World} {base : Nat} {e : TypeId} {size n : Nat} {v : Value} {xs : List Value} (h : w.ownsRow base e size v n xs) (k : Nat) (hk : v.ownBlock = some k) : base ≤ k := by
  rcases h.2 with ⟨rfl, _⟩ | ⟨g, cap, cur, rfl, hb, _⟩
  · simp [Value.ownBlock] at hk
  · have : g = k := by simpa [Value.ownBlock] using hk
    omega
theorem news1 (w : World) (d : Value) (t : TypeId) (j : Nat) (u : Value) (h : [d][j]? = some u) : (w.alloc (.cells #[d] t)).cell? ((⟨w.heap.size, 0, none⟩ : Addr).add j) = some u := by
  match j, h with
  | 0, h =>
    obtain rfl : d = u := by simpa using h
    simp [Addr.add]
theorem one1 (d : Value) (h : d.oneCell' = true) : ∀ u ∈ [d], u.oneCell' = true := by simpa using h
/-- A slice and a truth value. -/
def Two (e : Ending) : Prop := ∃ (v : Value) (r : Bool), e = .returned (.tuple #[v, .bool r])
theorem info358 : (Tryz.prog.info? 358).map (fun i => (i.zero, i.size, i.bytes)) = some (some .nilIface, 1, 16) := by kernel_rfl
end U
set_option maxRecDepth 100000 in
set_option maxHeartbeats 4000000 in
theorem Tryz.doers (w0 : World) (B : Nat) (w : World) (hA : Ag w0 B w) (v : Value) (hv : atP w0 B v) :
    Calls Tryz.prog 199 #[v] w fun e w' => Two e ∧ Below w.heap.size w w' := by
  obtain ⟨⟨ao, len, cap, rfl, hlen, hc⟩, hbytes⟩ := hv
  have hbytes : len * 16 ≤ 140737488351232 := hbytes _ _ _ rfl
  unfold maxLen at hlen
  have hc' : Hid (∀ i, i < len → ∃ b off, ao = some ⟨b, off, none⟩ ∧ b < B ∧ ∀ j, j < 2 → ∃ u, w0.cell? ⟨b, off + i * 2 + j, none⟩ = some u ∧ locP j u) := hc
  clear hc
  obtain ⟨i0, hi, hz0, hz1, hz2⟩ := info_parts info358
  have m483 : ∀ n w, (method 727 483 (.int .i64 n) "theodolite/expr.takes").run Tryz.prog w = .ok (511, .int .i64 n) w := fun _ _ => by kernel_rfl
  have m484 : ∀ n w, (method 727 484 (.int .i64 n) "theodolite/expr.takes").run Tryz.prog w = .ok (513, .int .i64 n) w := fun _ _ => by kernel_rfl
  have m485 : ∀ n w, (method 727 485 (.int .i64 n) "theodolite/expr.takes").run Tryz.prog w = .ok (515, .int .i64 n) w := fun _ _ => by kernel_rfl
  have m486 : ∀ w, (method 727 486 (.agg #[]) "theodolite/expr.takes").run Tryz.prog w = .ok (517, .agg #[]) w := fun _ => by kernel_rfl
  have m487 : ∀ w, (method 727 487 (.agg #[]) "theodolite/expr.takes").run Tryz.prog w = .ok (519, .agg #[]) w := fun _ => by kernel_rfl
  have m488 : ∀ w, (method 727 488 (.agg #[]) "theodolite/expr.takes").run Tryz.prog w = .ok (521, .agg #[]) w := fun _ => by kernel_rfl
  have hinfo : Hid (Tryz.prog.info? 358 = some i0 ∧ i0.zero = some .nilIface ∧ i0.size = 1 ∧ i0.bytes = 16) := ⟨hi, hz0, hz1, hz2⟩
  clear hi hz0 hz1 hz2
  go_enter Tryz.func199, Tryz.ntmps199
  go_wp2
  go_loopw [4, 5, 12] (fun out deep i wr => ∃ (k : Nat) (n : Int), k ≤ len ∧ i = .int .i64 k ∧ deep = .int .i64 n ∧ Below w.heap.size w wr ∧ ∃ m xs, m ≤ k ∧ wr.ownsRow w.heap.size 358 1 out m xs) (fun _ _ i _ => len - (intOf i).toNat)
  case atStart => exact ⟨0, _, Nat.zero_le _, rfl, rfl, Below.refl _ _, 0, [], Nat.le_refl _, own_nil _ _ _ _⟩
  case round =>
    obtain ⟨k, n, hk, rfl, rfl, hbel, m, xs, hm, hown⟩ := hrel
    by_cases hlt : k < len
    · obtain ⟨b, off, rfl, hb, hj⟩ := hc' k hlt
      obtain ⟨_, h0, x0, rfl⟩ := hj 0 (by decide)
      obtain ⟨_, h1, x1, rfl⟩ := hj 1 (by decide)
      have hAr : Ag w0 B wr := hA.below hbel
      have g0 : wr.cell? ⟨b, off + k * 2, none⟩ = some (.int .u8 x0) := (hAr.cell hb).trans h0
      have g1 : wr.cell? ⟨b, off + k * 2 + 1, none⟩ = some (.int .i64 x1) := (hAr.cell hb).trans h1
      clear hj h0 h1
      have hO : Hid _ := hown
      have hW := hbel
      clear hown
      rcases made_cases x0 x1 with ⟨u, hm1⟩ | hm1 | hm1 | hm1 | hm1 | hm1 | hm1
      · go_wp2_with
          (go_at_call 264
           refine (hm1 _).mono ?_
           rintro e w1 ⟨rfl, hb1⟩)
        all_goals (go_ret2; exact ⟨⟨_, _, rfl⟩, (hbel.alloc hbel.size _).trans (hb1.mono (by have := hbel.size; simp; omega))⟩)
      · go_wp2_with (first
          | (go_at_call 264
             refine (hm1 _).mono ?_
             rintro e w1 ⟨rfl, hb1⟩
             have hO' : Hid _ := own_below (World.ownsRow.alloc hO _) hb1
             have hW' := (hW.alloc hW.size _).trans (hb1.mono (by have := hW.size; simp; omega))
             clear hO hW hb1
             have hO := hO'
             have hW := hW'
             clear hO' hW')
          | (go_at_call 511
             refine (Tryz.takes511 _ _).mono ?_
             rintro e w2 ⟨rfl, hb2⟩
             have hO' : Hid _ := own_below hO hb2
             have hW' := hW.trans (hb2.mono hW.size)
             clear hO hW hb2
             have hO := hO'
             have hW := hW'
             clear hO' hW')
          | (at_builtin
             refine wpList_append_own _ rfl (.tmp 36) (.tmp 38) 351 rfl w.heap.size 358 i0 .nilIface 1 16 Tryz.underlying351 hinfo.1 hinfo.2.1 hinfo.2.2.1 hinfo.2.2.2 rfl (by decide) _ m xs rfl (World.ownsRow.alloc hO _) ⟨_, 0, none⟩ 1 1 [.iface 483 (.int .i64 x1)] rfl rfl (U.news1 _ _ _) (U.one1 _ rfl) (by simp only [maxLen]; omega) (by omega) (by have := hW.size; simp; omega) ?_
             intro v' w4 hO4 hg4 _
             have hW4 := (hW.alloc hW.size _).grown hg4 (by have := hW.size; simp; omega) (U.own_base hO)
             have hO4 : Hid _ := hO4
             clear hO hW hg4))
        all_goals first
          | (go_ret2; exact ⟨⟨_, _, rfl⟩, hW⟩)
          | (go_roundw
             case rel => exact ⟨k + 1, _, hlt, by go_num, rfl, hW4, m + 1, _, by omega, hO4⟩
             case measure => simp [intOf]; omega)
      · go_wp2_with (first
          | (go_at_call 264
             refine (hm1 _).mono ?_
             rintro e w1 ⟨rfl, hb1⟩
             have hO' : Hid _ := own_below (World.ownsRow.alloc hO _) hb1
             have hW' := (hW.alloc hW.size _).trans (hb1.mono (by have := hW.size; simp; omega))
             clear hO hW hb1
             have hO := hO'
             have hW := hW'
             clear hO' hW')
          | (go_at_call 513
             refine (Tryz.takes513 _ _).mono ?_
             rintro e w2 ⟨rfl, hb2⟩
             have hO' : Hid _ := own_below hO hb2
             have hW' := hW.trans (hb2.mono hW.size)
             clear hO hW hb2
             have hO := hO'
             have hW := hW'
             clear hO' hW')
          | (at_builtin
             refine wpList_append_own _ rfl (.tmp 36) (.tmp 38) 351 rfl w.heap.size 358 i0 .nilIface 1 16 Tryz.underlying351 hinfo.1 hinfo.2.1 hinfo.2.2.1 hinfo.2.2.2 rfl (by decide) _ m xs rfl (World.ownsRow.alloc hO _) ⟨_, 0, none⟩ 1 1 [.iface 484 (.int .i64 x1)] rfl rfl (U.news1 _ _ _) (U.one1 _ rfl) (by simp only [maxLen]; omega) (by omega) (by have := hW.size; simp; omega) ?_
             intro v' w4 hO4 hg4 _
             have hW4 := (hW.alloc hW.size _).grown hg4 (by have := hW.size; simp; omega) (U.own_base hO)
             have hO4 : Hid _ := hO4
             clear hO hW hg4))
        all_goals first
          | (go_ret2; exact ⟨⟨_, _, rfl⟩, hW⟩)
          | (go_roundw
             case rel => exact ⟨k + 1, _, hlt, by go_num, rfl, hW4, m + 1, _, by omega, hO4⟩
             case measure => simp [intOf]; omega)
      · go_wp2_with (first
          | (go_at_call 264
             refine (hm1 _).mono ?_
             rintro e w1 ⟨rfl, hb1⟩
             have hO' : Hid _ := own_below (World.ownsRow.alloc hO _) hb1
             have hW' := (hW.alloc hW.size _).trans (hb1.mono (by have := hW.size; simp; omega))
             clear hO hW hb1
             have hO := hO'
             have hW := hW'
             clear hO' hW')
          | (go_at_call 515
             refine (Tryz.takes515 _ _).mono ?_
             rintro e w2 ⟨rfl, hb2⟩
             have hO' : Hid _ := own_below hO hb2
             have hW' := hW.trans (hb2.mono hW.size)
             clear hO hW hb2
             have hO := hO'
             have hW := hW'
             clear hO' hW')
          | (at_builtin
             refine wpList_append_own _ rfl (.tmp 36) (.tmp 38) 351 rfl w.heap.size 358 i0 .nilIface 1 16 Tryz.underlying351 hinfo.1 hinfo.2.1 hinfo.2.2.1 hinfo.2.2.2 rfl (by decide) _ m xs rfl (World.ownsRow.alloc hO _) ⟨_, 0, none⟩ 1 1 [.iface 485 (.int .i64 x1)] rfl rfl (U.news1 _ _ _) (U.one1 _ rfl) (by simp only [maxLen]; omega) (by omega) (by have := hW.size; simp; omega) ?_
             intro v' w4 hO4 hg4 _
             have hW4 := (hW.alloc hW.size _).grown hg4 (by have := hW.size; simp; omega) (U.own_base hO)
             have hO4 : Hid _ := hO4
             clear hO hW hg4))
        all_goals first
          | (go_ret2; exact ⟨⟨_, _, rfl⟩, hW⟩)
          | (go_roundw
             case rel => exact ⟨k + 1, _, hlt, by go_num, rfl, hW4, m + 1, _, by omega, hO4⟩
             case measure => simp [intOf]; omega)
      · go_wp2_with (first
          | (go_at_call 264
             refine (hm1 _).mono ?_
             rintro e w1 ⟨rfl, hb1⟩
             have hO' : Hid _ := own_below (World.ownsRow.alloc hO _) hb1
             have hW' := (hW.alloc hW.size _).trans (hb1.mono (by have := hW.size; simp; omega))
             clear hO hW hb1
             have hO := hO'
             have hW := hW'
             clear hO' hW')
          | (go_at_call 517
             refine (Tryz.takes517 _).mono ?_
             rintro e w2 ⟨rfl, hb2⟩
             have hO' : Hid _ := own_below hO hb2
             have hW' := hW.trans (hb2.mono hW.size)
             clear hO hW hb2
             have hO := hO'
             have hW := hW'
             clear hO' hW')
          | (at_builtin
             refine wpList_append_own _ rfl (.tmp 36) (.tmp 38) 351 rfl w.heap.size 358 i0 .nilIface 1 16 Tryz.underlying351 hinfo.1 hinfo.2.1 hinfo.2.2.1 hinfo.2.2.2 rfl (by decide) _ m xs rfl (World.ownsRow.alloc hO _) ⟨_, 0, none⟩ 1 1 [.iface 486 (.agg #[])] rfl rfl (U.news1 _ _ _) (U.one1 _ rfl) (by simp only [maxLen]; omega) (by omega) (by have := hW.size; simp; omega) ?_
             intro v' w4 hO4 hg4 _
             have hW4 := (hW.alloc hW.size _).grown hg4 (by have := hW.size; simp; omega) (U.own_base hO)
             have hO4 : Hid _ := hO4
             clear hO hW hg4))
        all_goals first
          | (go_ret2; exact ⟨⟨_, _, rfl⟩, hW⟩)
          | (go_roundw
             case rel => exact ⟨k + 1, _, hlt, by go_num, rfl, hW4, m + 1, _, by omega, hO4⟩
             case measure => simp [intOf]; omega)
      · go_wp2_with (first
          | (go_at_call 264
             refine (hm1 _).mono ?_
             rintro e w1 ⟨rfl, hb1⟩
             have hO' : Hid _ := own_below (World.ownsRow.alloc hO _) hb1
             have hW' := (hW.alloc hW.size _).trans (hb1.mono (by have := hW.size; simp; omega))
             clear hO hW hb1
             have hO := hO'
             have hW := hW'
             clear hO' hW')
          | (go_at_call 519
             refine (Tryz.takes519 _).mono ?_
             rintro e w2 ⟨rfl, hb2⟩
             have hO' : Hid _ := own_below hO hb2
             have hW' := hW.trans (hb2.mono hW.size)
             clear hO hW hb2
             have hO := hO'
             have hW := hW'
             clear hO' hW')
          | (at_builtin
             refine wpList_append_own _ rfl (.tmp 36) (.tmp 38) 351 rfl w.heap.size 358 i0 .nilIface 1 16 Tryz.underlying351 hinfo.1 hinfo.2.1 hinfo.2.2.1 hinfo.2.2.2 rfl (by decide) _ m xs rfl (World.ownsRow.alloc hO _) ⟨_, 0, none⟩ 1 1 [.iface 487 (.agg #[])] rfl rfl (U.news1 _ _ _) (U.one1 _ rfl) (by simp only [maxLen]; omega) (by omega) (by have := hW.size; simp; omega) ?_
             intro v' w4 hO4 hg4 _
             have hW4 := (hW.alloc hW.size _).grown hg4 (by have := hW.size; simp; omega) (U.own_base hO)
             have hO4 : Hid _ := hO4
             clear hO hW hg4))
        all_goals first
          | (go_ret2; exact ⟨⟨_, _, rfl⟩, hW⟩)
          | (go_roundw
             case rel => exact ⟨k + 1, _, hlt, by go_num, rfl, hW4, m + 1, _, by omega, hO4⟩
             case measure => simp [intOf]; omega)
      · go_wp2_with (first
          | (go_at_call 264
             refine (hm1 _).mono ?_
             rintro e w1 ⟨rfl, hb1⟩
             have hO' : Hid _ := own_below (World.ownsRow.alloc hO _) hb1
             have hW' := (hW.alloc hW.size _).trans (hb1.mono (by have := hW.size; simp; omega))
             clear hO hW hb1
             have hO := hO'
             have hW := hW'
             clear hO' hW')
          | (go_at_call 521
             refine (Tryz.takes521 _).mono ?_
             rintro e w2 ⟨rfl, hb2⟩
             have hO' : Hid _ := own_below hO hb2
             have hW' := hW.trans (hb2.mono hW.size)
             clear hO hW hb2
             have hO := hO'
             have hW := hW'
             clear hO' hW')
          | (at_builtin
             refine wpList_append_own _ rfl (.tmp 36) (.tmp 38) 351 rfl w.heap.size 358 i0 .nilIface 1 16 Tryz.underlying351 hinfo.1 hinfo.2.1 hinfo.2.2.1 hinfo.2.2.2 rfl (by decide) _ m xs rfl (World.ownsRow.alloc hO _) ⟨_, 0, none⟩ 1 1 [.iface 488 (.agg #[])] rfl rfl (U.news1 _ _ _) (U.one1 _ rfl) (by simp only [maxLen]; omega) (by omega) (by have := hW.size; simp; omega) ?_
             intro v' w4 hO4 hg4 _
             have hW4 := (hW.alloc hW.size _).grown hg4 (by have := hW.size; simp; omega) (U.own_base hO)
             have hO4 : Hid _ := hO4
             clear hO hW hg4))
        all_goals first
          | (go_ret2; exact ⟨⟨_, _, rfl⟩, hW⟩)
          | (go_roundw
             case rel => exact ⟨k + 1, _, hlt, by go_num, rfl, hW4, m + 1, _, by omega, hO4⟩
             case measure => simp [intOf]; omega)
    · go_wp2
      all_goals (go_ret2; exact ⟨⟨_, _, rfl⟩, hbel⟩)
end Go.Proofs
namespace Go.Proofs
open Go Go.RowKit U
set_option maxHeartbeats 1000000 in
theorem Tryz.exprRight (w0 : World) (B : Nat) (w : World) (hA : Ag w0 B w) (v : Value) (hv : atP w0 B v) :
    Calls Tryz.prog 133 #[v] w fun e w' => Boo e ∧ Below w.heap.size w w' := by
  have hd := Tryz.doers w0 B w hA v hv
  go_enter Tryz.func133, Tryz.ntmps133
  go_wp2_with
    (go_at_call 199
     refine hd.mono ?_
     rintro e w1 ⟨⟨u, r, rfl⟩, hb1⟩)
  go_ret; exact ⟨⟨_, rfl⟩, hb1⟩
set_option maxRecDepth 100000 in
set_option maxHeartbeats 4000000 in
theorem Tryz.locsRight (w0 : World) (B : Nat) (w : World) (hA : Ag w0 B w) (v : Value) (hv : spansP w0 B v) :
    Calls Tryz.prog 79 #[v] w fun e w' => Boo e ∧ Below w.heap.size w w' := by
  obtain ⟨ao, len, cap, rfl, hlen, hc⟩ := hv
  unfold maxLen at hlen
  have hc' : Hid (∀ i, i < len → ∃ b off, ao = some ⟨b, off, none⟩ ∧ b < B ∧ ∀ j, j < 3 → ∃ u, w0.cell? ⟨b, off + i * 3 + j, none⟩ = some u ∧ spanP w0 B j u) := hc
  clear hc
  go_enter Tryz.func79, Tryz.ntmps79
  go_wp2
  go_loopw [3, 8] (fun last i wr => ∃ (k : Nat) (n : Int), k ≤ len ∧ i = .int .i64 k ∧ last = .int .i64 n ∧ Below w.heap.size w wr) (fun _ i _ => len - (intOf i).toNat)
  case atStart => exact ⟨0, _, Nat.zero_le _, rfl, rfl, Below.refl _ _⟩
  case round =>
    obtain ⟨k, n, hk, rfl, rfl, hbel⟩ := hrel
    by_cases hlt : k < len
    · obtain ⟨b, off, rfl, hb, hj⟩ := hc' k hlt
      obtain ⟨_, h0, x0, rfl⟩ := hj 0 (by decide)
      obtain ⟨_, h1, x1, rfl⟩ := hj 1 (by decide)
      obtain ⟨v2, h2, hs2⟩ := hj 2 (by decide)
      have hs2 : atP w0 B v2 := hs2
      have hAr : Ag w0 B wr := hA.below hbel
      have g0 : wr.cell? ⟨b, off + k * 3, none⟩ = some (.int .i64 x0) := (hAr.cell hb).trans h0
      have g1 : wr.cell? ⟨b, off + k * 3 + 1, none⟩ = some (.int .i64 x1) := (hAr.cell hb).trans h1
      have g2 : wr.cell? ⟨b, off + k * 3 + 2, none⟩ = some v2 := (hAr.cell hb).trans h2
      have hcall : Hid (∀ o, Calls Tryz.prog 133 #[v2] (wr.alloc o) fun e w' => Boo e ∧ Below (wr.alloc o).heap.size (wr.alloc o) w') := fun o => Tryz.exprRight w0 B _ (hAr.alloc o) v2 hs2
      obtain ⟨⟨a2, l2, c2, rfl, hl2, _⟩, _⟩ := hs2
      clear hj h0 h1 h2
      go_wp2_with
        (go_at_call 133
         refine (hcall _).mono ?_
         rintro e w1 ⟨⟨r1, rfl⟩, hb1⟩
         have f1 : w1.cell? ⟨wr.heap.size, 1, none⟩ = some (.int .i64 x1) := (hb1.cell (p := ⟨wr.heap.size, 1, none⟩) (by simp)).trans (by simp)
         have hbw : Below w.heap.size w w1 := (hbel.alloc hbel.size _).trans (hb1.mono (by have := hbel.size; simp; omega)))
      all_goals first
        | (go_roundw
           case rel => exact ⟨k + 1, _, hlt, by go_num, rfl, hbw⟩
           case measure => simp [intOf]; omega)
        | (go_ret; exact ⟨⟨_, rfl⟩, hbw⟩)
        | (go_ret; exact ⟨⟨_, rfl⟩, hbel.alloc hbel.size _⟩)
    · go_wp2
      all_goals (go_ret; exact ⟨⟨_, rfl⟩, hbel⟩)
end Go.Proofs
namespace Go.Proofs
open Go Go.RowKit U
set_option maxRecDepth 100000 in
set_option maxHeartbeats 16000000 in
theorem Tryz.rightPlace (w0 : World) (B : Nat) (w : World) (hA : Ag w0 B w) (nm : ByteArray) (hnm : nm.size ≤ maxLen) (fr til last : Int) (v3 v4 : Value) (h3 : Sl w0 B 6 (varP w0 B) v3) (h4 : Sl w0 B 1 (fun _ => spansP w0 B) v4) :
    Calls Tryz.prog 38 #[.agg #[.string nm, .int .i64 fr, .int .i64 til, v3, v4], .int .i64 last] w fun e w' => Boo e ∧ Below w.heap.size w w' := by
  obtain ⟨a3, l3, c3, rfl, hl3, hc3⟩ := h3
  obtain ⟨a4, l4, c4, rfl, hl4, hc4⟩ := h4
  unfold maxLen at hl3 hl4
  have hn : ∀ (W : World), Calls Tryz.prog 77 #[.string nm] W fun e w' => Boo e ∧ Below W.heap.size W w' := fun W => Tryz.named W nm hnm
  have hc3' : Hid (∀ i, i < l3 → ∃ b off, a3 = some ⟨b, off, none⟩ ∧ b < B ∧ ∀ j, j < 6 → ∃ u, w0.cell? ⟨b, off + i * 6 + j, none⟩ = some u ∧ varP w0 B j u) := hc3
  have hc4' : Hid (∀ i, i < l4 → ∃ b off, a4 = some ⟨b, off, none⟩ ∧ b < B ∧ ∀ j, j < 1 → ∃ u, w0.cell? ⟨b, off + i * 1 + j, none⟩ = some u ∧ spansP w0 B u) := hc4
  clear hc3 hc4 hnm
  by_cases hl : l4 = l3
  · obtain rfl : l3 = l4 := hl.symm
    clear hl
    go_enter Tryz.func38, Tryz.ntmps38
    go_wp2_with
      (go_at_call 77
       refine (hn _).mono ?_
       rintro e w1 ⟨⟨r, rfl⟩, hb1⟩
       obtain ⟨f0, f1, f2, f3, f4⟩ := five (b := w.heap.size) hb1 (by simp) (c0 := .string nm) (c1 := .int .i64 fr) (c2 := .int .i64 til) (c3 := .slice a3 l3 c3) (c4 := .slice a4 l3 c4) (by simp) (by simp) (by simp) (by simp) (by simp)
       have hw1 : Below w.heap.size w w1 := ((Below.refl _ w).alloc (Nat.le_refl _) _).trans (hb1.mono (by simp))
       have hz1 : w.heap.size < w1.heap.size := Nat.lt_of_lt_of_le (by simp) hb1.size
       clear hb1
       cases r)
    all_goals first | (go_ret; exact ⟨⟨_, rfl⟩, hw1⟩) | skip
    go_loopw [49] (fun i wr => ∃ k : Nat, k ≤ l3 ∧ i = .int .i64 k ∧ Below w.heap.size w wr ∧ w.heap.size < wr.heap.size ∧ Hid (wr.cell? ⟨w.heap.size, 0, none⟩ = some (.string nm) ∧ wr.cell? ⟨w.heap.size, 1, none⟩ = some (.int .i64 fr) ∧ wr.cell? ⟨w.heap.size, 2, none⟩ = some (.int .i64 til) ∧ wr.cell? ⟨w.heap.size, 3, none⟩ = some (.slice a3 l3 c3) ∧ wr.cell? ⟨w.heap.size, 4, none⟩ = some (.slice a4 l3 c4))) (fun i _ => l3 - (intOf i).toNat)
    case atStart => exact ⟨0, Nat.zero_le _, rfl, hw1, hz1, f0, f1, f2, f3, f4⟩
    case round =>
      clear f0 f1 f2 f3 f4 hw1 hz1
      obtain ⟨k, hk, rfl, hbel, hsz, hfive⟩ := hrel
      have hfive' := hfive
      obtain ⟨f0, f1, f2, f3, f4⟩ := hfive'
      by_cases hlt : k < l3
      · obtain ⟨b, off, rfl, hb, hj⟩ := hc3' k hlt
        obtain ⟨_, q0, s0, rfl, hs0⟩ := hj 0 (by decide)
        obtain ⟨_, q1, y1, rfl⟩ := hj 1 (by decide)
        obtain ⟨_, q2, y2, rfl⟩ := hj 2 (by decide)
        obtain ⟨_, q3, s3, rfl, hs3⟩ := hj 3 (by decide)
        obtain ⟨_, q4, y4, rfl⟩ := hj 4 (by decide)
        obtain ⟨v5, q5, hv5⟩ := hj 5 (by decide)
        have hv5 : Sl w0 B 1 (fun _ => IsS) v5 := hv5
        obtain ⟨b6, off6, rfl, hb6, hj6⟩ := hc4' k hlt
        obtain ⟨v6, q6, hv6⟩ := hj6 0 (by decide)
        have hAr : Ag w0 B wr := hA.below hbel
        have e0 : wr.cell? ⟨b, off + k * 6, none⟩ = some (.string s0) := (hAr.cell hb).trans q0
        have e1 : wr.cell? ⟨b, off + k * 6 + 1, none⟩ = some (.int .u8 y1) := (hAr.cell hb).trans q1
        have e2 : wr.cell? ⟨b, off + k * 6 + 2, none⟩ = some (.int .i64 y2) := (hAr.cell hb).trans q2
        have e3 : wr.cell? ⟨b, off + k * 6 + 3, none⟩ = some (.string s3) := (hAr.cell hb).trans q3
        have e4 : wr.cell? ⟨b, off + k * 6 + 4, none⟩ = some (.int .i64 y4) := (hAr.cell hb).trans q4
        have e5 : wr.cell? ⟨b, off + k * 6 + 5, none⟩ = some v5 := (hAr.cell hb).trans q5
        have e6 : ∀ o, (wr.alloc o).cell? ⟨b6, off6 + k, none⟩ = some v6 := fun o => ((hAr.alloc o).cell hb6).trans (by simpa using q6)
        have f4o : ∀ o, (wr.alloc o).cell? ⟨w.heap.size, 4, none⟩ = some (.slice (some ⟨b6, off6, none⟩) l3 c4) := fun o => (World.cell?_alloc_lt wr o ⟨w.heap.size, 4, none⟩ hsz).trans f4
        have hvar : Hid (∀ o, Calls Tryz.prog 78 #[.agg #[.string s0, .int .u8 y1, .int .i64 y2, .string s3, .int .i64 y4, v5]] (wr.alloc o) fun e w' => Boo e ∧ Below (wr.alloc o).heap.size (wr.alloc o) w') := fun o => Tryz.rightVar B (wr.alloc o) (hAr.alloc o).size s0 s3 hs0 hs3 y1 y2 y4 v5 (hv5.to (hAr.alloc o))
        have hspan : Hid (∀ W, Ag w0 B W → Calls Tryz.prog 79 #[v6] W fun e w' => Boo e ∧ Below W.heap.size W w') := fun W h => Tryz.locsRight w0 B W h v6 hv6
        obtain ⟨a5, l5, c5, rfl, _, _⟩ := hv5
        obtain ⟨a6, l6, c6, rfl, hl6, hc6⟩ := hv6
        unfold maxLen at hl6
        have hc6' : Hid (∀ i, i < l6 → ∃ b off, a6 = some ⟨b, off, none⟩ ∧ b < B ∧ ∀ j, j < 3 → ∃ u, w0.cell? ⟨b, off + i * 3 + j, none⟩ = some u ∧ spanP w0 B j u) := hc6
        clear hj hj6 q0 q1 q2 q3 q4 q5 q6 hc6 hs0 hs3
        go_upto_region 10 with
          (first
            | (go_at_call 78
               refine (hvar _).mono ?_
               rintro e w1 ⟨⟨r1, rfl⟩, hb1'⟩
               have hb1 : Below wr.heap.size wr w1 := ((Below.refl _ wr).alloc (Nat.le_refl _) _).trans (hb1'.mono (by simp))
               clear hb1')
            | (go_at_call 79
               refine (hspan _ (hAr.below hb1)).mono ?_
               rintro e w2 ⟨⟨r2, rfl⟩, hb2⟩))
        all_goals first
          | (go_ret; exact ⟨⟨_, rfl⟩, hbel.trans (hb1.mono hbel.size)⟩)
          | (go_ret; exact ⟨⟨_, rfl⟩, hbel.trans ((hb1.trans (hb2.mono hb1.size)).mono hbel.size)⟩)
          | skip
        have hb12 : Below wr.heap.size wr w2 := hb1.trans (hb2.mono hb1.size)
        have hA2 : Ag w0 B w2 := hAr.below hb12
        have hfive2 := five hb12 hsz f0 f1 f2 f3 f4
        obtain ⟨p0, p1, p2, p3, p4⟩ := five hb12 hsz f0 f1 f2 f3 f4
        have hfive2 : Hid _ := hfive2
        clear f0 f1 f2 f3 f4 hfive e0 e1 e2 e3 e4 e5 e6 f4o
        go_cut [90] (fun s wx => Bv s ∧ Below w2.heap.size w2 wx)
        case first =>
          by_cases h0 : 0 < l6
          · obtain ⟨b7, off7, rfl, hb7, hj7⟩ := hc6' 0 h0
            obtain ⟨_, z0, x0, rfl⟩ := hj7 0 (by decide)
            have m0 : w2.cell? ⟨b7, off7, none⟩ = some (.int .i64 x0) := (hA2.cell hb7).trans (by simpa using z0)
            obtain ⟨b8, off8, he, hb8, hj8⟩ := hc6' (l6 - 1) (by omega)
            obtain ⟨rfl, rfl⟩ : b7 = b8 ∧ off7 = off8 := by simpa using he
            obtain ⟨_, z1, x1, rfl⟩ := hj8 1 (by decide)
            have m1 : w2.cell? ⟨b7, off7 + (l6 - 1) * 3 + 1, none⟩ = some (.int .i64 x1) := (hA2.cell hb7).trans z1
            clear hj7 hj8 z0 z1 he
            by_cases hd : x0 < fr
            · have hd' : decide (x0 < fr) = true := by simpa using hd
              go_quiet (fail)
              go_wp2
              go_meet; exact ⟨⟨_, rfl⟩, below_drewN (Below.refl _ _) _⟩
            · have hd' : decide (x0 < fr) = false := by simpa using hd
              have hi : ((l6 : Int) - 1).toNat = l6 - 1 := by omega
              go_quiet (fail)
              go_wp2
              go_meet; exact ⟨⟨_, rfl⟩, below_drewN (Below.refl _ _) _⟩
          · have hd' : decide ((0 : Int) < l6) = false := by simpa using h0
            go_quiet (fail)
            go_wp2
            go_meet; exact ⟨⟨_, rfl⟩, below_drewN (Below.refl _ _) _⟩
        case rest =>
          obtain ⟨⟨r, rfl⟩, hb3⟩ := hcut
          have hbc : Below wr.heap.size wr wc := hb12.trans (hb3.mono hb12.size)
          have hw3 : Below w.heap.size w wc := hbel.trans (hbc.mono hbel.size)
          have hsz3 : w.heap.size < wc.heap.size := Nat.lt_of_lt_of_le hsz hbc.size
          have hfive3 := five hb3 (Nat.lt_of_lt_of_le hsz hb12.size) p0 p1 p2 p3 p4
          have hfive3 : Hid _ := hfive3
          clear p0 p1 p2 p3 p4
          go_wp2
          all_goals first
            | (go_roundw
               case rel => exact ⟨k + 1, hlt, by go_num, hw3, hsz3, hfive3⟩
               case measure => simp [intOf]; omega)
            | (go_ret; exact ⟨⟨_, rfl⟩, hw3⟩)
      · go_wp2
        all_goals (go_ret; exact ⟨⟨_, rfl⟩, hbel⟩)
  · have hl' : ((l4 : Int) == l3) = false := by rw [beq_eq_false_iff_ne]; omega
    have hl'' : ((l4 : Int) != l3) = true := by rw [bne_iff_ne]; omega
    go_enter Tryz.func38, Tryz.ntmps38
    go_wp2_with
      (go_at_call 77
       refine (hn _).mono ?_
       rintro e w1 ⟨⟨r, rfl⟩, hb1⟩
       obtain ⟨f0, f1, f2, f3, f4⟩ := five (b := w.heap.size) hb1 (by simp) (c0 := .string nm) (c1 := .int .i64 fr) (c2 := .int .i64 til) (c3 := .slice a3 l3 c3) (c4 := .slice a4 l4 c4) (by simp) (by simp) (by simp) (by simp) (by simp)
       have hw1 : Below w.heap.size w w1 := ((Below.refl _ w).alloc (Nat.le_refl _) _).trans (hb1.mono (by simp))
       clear hb1
       cases r)
    all_goals (go_ret; exact ⟨⟨_, rfl⟩, hw1⟩)
end Go.Proofs
/-! scopes.Right. -/
namespace Go.Proofs
open Go Go.RowKit U
set_option maxRecDepth 100000 in
set_option maxHeartbeats 16000000 in
theorem Tryz.scopesRight (w0 : World) (B : Nat) (w : World) (hA : Ag w0 B w) (v u : Value) (hv : Sl w0 B 5 (placeP w0 B) v) (hu : Sl w0 B 3 (pointP w0 B) u) :
    Calls Tryz.prog 15 #[v, u] w fun e w' => Boo e ∧ Below w.heap.size w w' := by
  have hpoint : ∀ (W : World) (f ln : Int) (v2 : Value), Ag w0 B W → Sl w0 B 1 (fun _ => IsI) v2 → Calls Tryz.prog 39 #[.agg #[.int .i64 f, .int .i64 ln, v2], v] W fun e w' => Boo e ∧ Below W.heap.size W w' := fun W f ln v2 h h2 => Tryz.rightPoint w0 B W h f ln v2 v h2 hv
  obtain ⟨ao, len, cap, rfl, hlen, hc⟩ := hv
  obtain ⟨ap, lp, cp, rfl, hlp, hcp⟩ := hu
  unfold maxLen at hlen hlp
  have hc' : Hid (∀ i, i < len → ∃ b off, ao = some ⟨b, off, none⟩ ∧ b < B ∧ ∀ j, j < 5 → ∃ u, w0.cell? ⟨b, off + i * 5 + j, none⟩ = some u ∧ placeP w0 B j u) := hc
  have hcp' : Hid (∀ i, i < lp → ∃ b off, ap = some ⟨b, off, none⟩ ∧ b < B ∧ ∀ j, j < 3 → ∃ u, w0.cell? ⟨b, off + i * 3 + j, none⟩ = some u ∧ pointP w0 B j u) := hcp
  clear hc hcp
  go_enter Tryz.func15, Tryz.ntmps15
  go_wp2
  go_loopw [5, 12] (fun last i wr => ∃ (k : Nat) (n : Int), k ≤ len ∧ i = .int .i64 k ∧ last = .int .i64 n ∧ Below w.heap.size w wr) (fun _ i _ => len - (intOf i).toNat)
  case atStart => exact ⟨0, _, Nat.zero_le _, rfl, rfl, Below.refl _ _⟩
  case round =>
    obtain ⟨k, n, hk, rfl, rfl, hbel⟩ := hrel
    by_cases hlt : k < len
    · obtain ⟨b, off, rfl, hb, hj⟩ := hc' k hlt
      obtain ⟨_, q0, s0, rfl, hs0⟩ := hj 0 (by decide)
      obtain ⟨_, q1, y1, rfl⟩ := hj 1 (by decide)
      obtain ⟨_, q2, y2, rfl⟩ := hj 2 (by decide)
      obtain ⟨v3, q3, hv3⟩ := hj 3 (by decide)
      obtain ⟨v4, q4, hv4⟩ := hj 4 (by decide)
      have hv3 : Sl w0 B 6 (varP w0 B) v3 := hv3
      have hv4 : Sl w0 B 1 (fun _ => spansP w0 B) v4 := hv4
      have hAr : Ag w0 B wr := hA.below hbel
      have e0 : wr.cell? ⟨b, off + k * 5, none⟩ = some (.string s0) := (hAr.cell hb).trans q0
      have e1 : wr.cell? ⟨b, off + k * 5 + 1, none⟩ = some (.int .i64 y1) := (hAr.cell hb).trans q1
      have e2 : wr.cell? ⟨b, off + k * 5 + 2, none⟩ = some (.int .i64 y2) := (hAr.cell hb).trans q2
      have e3 : wr.cell? ⟨b, off + k * 5 + 3, none⟩ = some v3 := (hAr.cell hb).trans q3
      have e4 : wr.cell? ⟨b, off + k * 5 + 4, none⟩ = some v4 := (hAr.cell hb).trans q4
      have hplace : Hid (∀ o last, Calls Tryz.prog 38 #[.agg #[.string s0, .int .i64 y1, .int .i64 y2, v3, v4], .int .i64 last] (wr.alloc o) fun e w' => Boo e ∧ Below (wr.alloc o).heap.size (wr.alloc o) w') := fun o last => Tryz.rightPlace w0 B _ (hAr.alloc o) s0 hs0 y1 y2 last v3 v4 hv3 hv4
      obtain ⟨a3, l3, c3, rfl, _, _⟩ := hv3
      obtain ⟨a4, l4, c4, rfl, _, _⟩ := hv4
      clear hj q0 q1 q2 q3 q4 hs0
      go_wp2_with
        (go_at_call 38
         refine (hplace _ _).mono ?_
         rintro e w1 ⟨⟨r1, rfl⟩, hb1⟩
         have m2 : w1.cell? ⟨wr.heap.size, 2, none⟩ = some (.int .i64 y2) := (hb1.cell (p := ⟨wr.heap.size, 2, none⟩) (by simp)).trans (by simp)
         have hw1 : Below w.heap.size w w1 := (hbel.alloc hbel.size _).trans (hb1.mono (by have := hbel.size; simp; omega)))
      all_goals first
        | (go_roundw
           case rel => exact ⟨k + 1, _, hlt, by go_num, rfl, hw1⟩
           case measure => simp [intOf]; omega)
        | (go_ret; exact ⟨⟨_, rfl⟩, hw1⟩)
    · go_wp2
      go_loopw [25] (fun i wr => ∃ k : Nat, k ≤ lp ∧ i = .int .i64 k ∧ Below w.heap.size w wr) (fun i _ => lp - (intOf i).toNat)
      case atStart => exact ⟨0, Nat.zero_le _, rfl, hbel⟩
      case round =>
        clear hk hlt hbel
        obtain ⟨k2, hk2, rfl, hbel⟩ := hrel
        obtain ⟨W2, rfl⟩ : ∃ W, W = wr := ⟨_, rfl⟩
        by_cases hlt : k2 < lp
        · obtain ⟨b, off, rfl, hb, hj⟩ := hcp' k2 hlt
          obtain ⟨_, q0, f, rfl⟩ := hj 0 (by decide)
          obtain ⟨_, q1, y1, rfl⟩ := hj 1 (by decide)
          obtain ⟨v2, q2, hv2⟩ := hj 2 (by decide)
          have hv2 : Sl w0 B 1 (fun _ => IsI) v2 := hv2
          have hAr : Ag w0 B W2 := hA.below hbel
          have hp : Hid (∀ o, Calls Tryz.prog 39 #[.agg #[.int .i64 f, .int .i64 y1, v2], .slice ao len cap] (W2.alloc o) fun e w' => Boo e ∧ Below (W2.alloc o).heap.size (W2.alloc o) w') := fun o => hpoint _ f y1 v2 (hAr.alloc o) hv2
          obtain ⟨a2, l2, c2, rfl, hl2, _⟩ := hv2
          have e0 : W2.cell? ⟨b, off + k2 * 3, none⟩ = some (.int .i64 f) := (hAr.cell hb).trans q0
          have e1 : W2.cell? ⟨b, off + k2 * 3 + 1, none⟩ = some (.int .i64 y1) := (hAr.cell hb).trans q1
          have e2 : W2.cell? ⟨b, off + k2 * 3 + 2, none⟩ = some (.slice a2 l2 c2) := (hAr.cell hb).trans q2
          clear hj q0 q1 q2
          go_wp2_with
            (go_at_call 39
             refine (hp _).mono ?_
             rintro e w1 ⟨⟨r1, rfl⟩, hb1⟩
             have hw1 : Below w.heap.size w w1 := (hbel.alloc hbel.size _).trans (hb1.mono (by have := hbel.size; simp; omega)))
          all_goals first
            | (go_roundw
               case rel => exact ⟨k2 + 1, hlt, by go_num, hw1⟩
               case measure => simp [intOf]; omega)
            | (go_ret; exact ⟨⟨_, rfl⟩, hw1⟩)
        · go_wp2
          all_goals (go_ret; exact ⟨⟨_, rfl⟩, hbel⟩)
end Go.Proofs
namespace Go.Proofs
open Go Go.RowKit U
set_option maxRecDepth 100000 in
set_option maxHeartbeats 8000000 in
theorem Tryz.small (w0 : World) (B : Nat) (w : World) (hA : Ag w0 B w) (s : Int) (v0 v2 v3 v4 v5 : Value) (h0 : Sl w0 B 1 (fun _ => IsB) v0) (h2 : Sl w0 B 2 row2 v2) (h3 : Sl w0 B 4 (unw w0 B) v3) (h4 : Sl w0 B 5 (placeP w0 B) v4) (h5 : Sl w0 B 3 (pointP w0 B) v5) :
    Calls Tryz.prog 4 #[.agg #[v0, .int .i64 s, v2, v3, v4, v5]] w fun e w' => Boo e ∧ Below w.heap.size w w' := by
  obtain ⟨a0, l0, c0, rfl, hl0, _⟩ := h0
  obtain ⟨a2, l2, c2, rfl, hl2, _⟩ := h2
  obtain ⟨a3, l3, c3, rfl, hl3, _⟩ := h3
  obtain ⟨a5, l5, c5, rfl, hl5, _⟩ := h5
  obtain ⟨ao, len, cap, rfl, hlen, hc⟩ := h4
  unfold maxLen at hlen hl0 hl2 hl3 hl5
  have hc' : Hid (∀ i, i < len → ∃ b off, ao = some ⟨b, off, none⟩ ∧ b < B ∧ ∀ j, j < 5 → ∃ u, w0.cell? ⟨b, off + i * 5 + j, none⟩ = some u ∧ placeP w0 B j u) := hc
  clear hc
  go_enter Tryz.func4, Tryz.ntmps4
  go_wp2
  go_loopw [3, 4] (fun n i wr => ∃ (k : Nat) (m : Int), k ≤ len ∧ i = .int .i64 k ∧ n = .int .i64 m ∧ Below w.heap.size w wr ∧ w.heap.size < wr.heap.size ∧ wr.cell? ⟨w.heap.size, 4, none⟩ = some (.slice ao len cap)) (fun _ i _ => len - (intOf i).toNat)
  case atStart => exact ⟨0, _, Nat.zero_le _, rfl, rfl, (Below.refl _ _).alloc (Nat.le_refl _) _, by simp, by simp⟩
  case round =>
    obtain ⟨k, m, hk, rfl, rfl, hbel, hsz, hbox⟩ := hrel
    by_cases hlt : k < len
    · obtain ⟨b, off, rfl, hb, hj⟩ := hc' k hlt
      obtain ⟨v3, q3, hv3⟩ := hj 3 (by decide)
      have hv3 : Sl w0 B 6 (varP w0 B) v3 := hv3
      obtain ⟨v4, q4, hv4⟩ := hj 4 (by decide)
      have hv4 : Sl w0 B 1 (fun _ => spansP w0 B) v4 := hv4
      have hAr : Ag w0 B wr := hA.below hbel
      obtain ⟨a3, l3, c3, rfl, hl3, _⟩ := hv3
      obtain ⟨a4, l4, c4, rfl, hl4, hc4⟩ := hv4
      unfold maxLen at hl3 hl4
      have hc4' : Hid (∀ i, i < l4 → ∃ b off, a4 = some ⟨b, off, none⟩ ∧ b < B ∧ ∀ j, j < 1 → ∃ u, w0.cell? ⟨b, off + i * 1 + j, none⟩ = some u ∧ spansP w0 B u) := hc4
      have e3 : wr.cell? ⟨b, off + k * 5 + 3, none⟩ = some (.slice a3 l3 c3) := (hAr.cell hb).trans q3
      have e4 : wr.cell? ⟨b, off + k * 5 + 4, none⟩ = some (.slice a4 l4 c4) := (hAr.cell hb).trans q4
      clear hj q3 q4 hc4
      go_upto_region 5 with fail
      go_quiet (fail)
      go_wp2
      go_loop [3, 5] (fun n i => ∃ (k : Nat) (m : Int), k ≤ l4 ∧ i = .int .i64 k ∧ n = .int .i64 m) (fun _ i => l4 - (intOf i).toNat)
      case atStart => exact ⟨0, _, Nat.zero_le _, rfl, rfl⟩
      case round =>
        obtain ⟨k2, m2, hk2, rfl, rfl⟩ := hrel
        by_cases hlt2 : k2 < l4
        · obtain ⟨b2, off2, rfl, hb2, hj2⟩ := hc4' k2 hlt2
          obtain ⟨v6, z0, hv6⟩ := hj2 0 (by decide)
          have e6 : wr.cell? ⟨b2, off2 + k2, none⟩ = some v6 := (hAr.cell hb2).trans (by simpa using z0)
          obtain ⟨a6, l6, c6, rfl, hl6, _⟩ := hv6
          unfold maxLen at hl6
          clear hj2 z0
          go_wp2
          all_goals (go_round
                     case rel => exact ⟨k2 + 1, _, hlt2, by go_num, rfl⟩
                     case measure => simp [intOf]; omega)
        · go_wp2
          all_goals (go_roundw
                     case rel => exact ⟨k + 1, _, hlt, by go_num, rfl, ⟨hbel.os, hbel.tape, hbel.output, hbel.size, hbel.block⟩, hsz, hbox⟩
                     case measure => simp [intOf]; omega)
    · go_wp2
      all_goals (go_ret; exact ⟨⟨_, rfl⟩, hbel⟩)
end Go.Proofs
/-! The makers of debuggers, and the law's own walk. -/
namespace Go.Proofs
open Go Go.RowKit U
namespace U
theorem unw_to {w0 w : World} {B j : Nat} {u : Value} (hA : Ag w0 B w) (h : unw w0 B j u) : unw w B j u := by
  unfold unw at h ⊢
  split at h
  · exact h.to hA
  · exact h
theorem unws_to {w0 w : World} {B : Nat} {v : Value} (hA : Ag w0 B w) (h : Sl w0 B 4 (unw w0 B) v) : Sl w B 4 (unw w B) v := h.mono hA.blk fun _ _ h => unw_to hA h
end U
set_option maxRecDepth 100000 in
set_option maxHeartbeats 8000000 in
theorem Tryz.debugNew (w0 : World) (B : Nat) (w : World) (hA : Ag w0 B w) (s : Int) (v0 v2 v3 v4 v5 : Value) (h0 : Sl w0 B 1 (fun _ => IsB) v0) (h2 : Sl w0 B 2 row2 v2) (h3 : Sl w0 B 4 (unw w0 B) v3) (h4 : Sl w0 B 5 (placeP w0 B) v4) (h5 : Sl w0 B 3 (pointP w0 B) v5) :
    Calls Tryz.prog 7 #[.agg #[v0, .int .i64 s, v2, v3, v4, v5], .int .i64 0, .slice none 0 0] w fun e w' => e = .returned (.tuple #[.pointer none, .int .i64 1]) ∧ Below w.heap.size w w' := by
  have hl : Hid (∀ o, Calls Tryz.prog 13 #[v2] (w.alloc o) fun e w' => Boo e ∧ Below (w.alloc o).heap.size (w.alloc o) w') := fun o => Tryz.linesRight B _ (hA.alloc o).size v2 (h2.to (hA.alloc o))
  have hu : Hid (∀ W, Ag w0 B W → Calls Tryz.prog 14 #[v3] W fun e w' => Boo e ∧ Below W.heap.size W w') := fun W h => Tryz.unwindRight B W h.size v3 (unws_to h h3)
  have hs : Hid (∀ W, Ag w0 B W → Calls Tryz.prog 15 #[v4, v5] W fun e w' => Boo e ∧ Below W.heap.size W w') := fun W h => Tryz.scopesRight w0 B W h v4 v5 h4 h5
  obtain ⟨a0, l0, c0, rfl, hl0, _⟩ := h0
  obtain ⟨a2, l2, c2, rfl, hl2, _⟩ := h2
  obtain ⟨a3, l3, c3, rfl, hl3, _⟩ := h3
  obtain ⟨a4, l4, c4, rfl, hl4, _⟩ := h4
  obtain ⟨a5, l5, c5, rfl, hl5, _⟩ := h5
  have hl0 : Hid (l0 ≤ maxLen) := hl0
  clear hl2 hl3 hl4 hl5
  go_enter Tryz.func7, Tryz.ntmps7
  go_wp2_with (first
    | (go_at_call 13
       refine (hl _).mono ?_
       rintro e w1 ⟨⟨r, rfl⟩, hb1⟩
       obtain ⟨f0, f1, f2, f3, f4, f5⟩ := six (b := w.heap.size) hb1 (by simp) (c0 := .slice a0 l0 c0) (c1 := .int .i64 s) (c2 := .slice a2 l2 c2) (c3 := .slice a3 l3 c3) (c4 := .slice a4 l4 c4) (c5 := .slice a5 l5 c5) (by simp) (by simp) (by simp) (by simp) (by simp) (by simp)
       have hw1 : Below w.heap.size w w1 := ((Below.refl _ w).alloc (Nat.le_refl _) _).trans (hb1.mono (by simp))
       have hz1 : w.heap.size < w1.heap.size := Nat.lt_of_lt_of_le (by simp) hb1.size
       clear hb1
       cases r)
    | (go_at_call 14
       refine (hu _ (hA.below hw1)).mono ?_
       rintro e w2 ⟨⟨r, rfl⟩, hb2⟩
       obtain ⟨g0, g1, g2, g3, g4, g5⟩ := six (b := w.heap.size) hb2 hz1 f0 f1 f2 f3 f4 f5
       have hw2 : Below w.heap.size w w2 := hw1.trans (hb2.mono (Nat.le_of_lt hz1))
       have hz2 : w.heap.size < w2.heap.size := Nat.lt_of_lt_of_le hz1 hb2.size
       clear hb2
       cases r)
    | (go_at_call 15
       refine (hs _ (hA.below hw2)).mono ?_
       rintro e w3 ⟨⟨r, rfl⟩, hb3⟩
       obtain ⟨k0, k1, k2, k3, k4, k5⟩ := six (b := w.heap.size) hb3 hz2 g0 g1 g2 g3 g4 g5
       have hw3 : Below w.heap.size w w3 := hw2.trans (hb3.mono (Nat.le_of_lt hz2))
       clear hb3
       cases r)
    | (go_at_call 16
       refine (Tryz.cpuNew _ _ _ _ _ _ _ _ hl0).mono ?_
       rintro e w4 ⟨rfl, rfl⟩))
  all_goals first
    | (go_ret2; exact ⟨rfl, hw1⟩)
    | (go_ret2; exact ⟨rfl, hw2⟩)
    | (go_ret2; exact ⟨rfl, hw3⟩)
set_option maxRecDepth 100000 in
set_option maxHeartbeats 8000000 in
theorem Tryz.ref27New (w0 : World) (B : Nat) (w : World) (hA : Ag w0 B w) (s : Int) (v0 v2 v3 v4 v5 : Value) (h0 : Sl w0 B 1 (fun _ => IsB) v0) (h2 : Sl w0 B 2 row2 v2) (h3 : Sl w0 B 4 (unw w0 B) v3) (h4 : Sl w0 B 5 (placeP w0 B) v4) (h5 : Sl w0 B 3 (pointP w0 B) v5) :
    Calls Tryz.prog 8 #[.agg #[v0, .int .i64 s, v2, v3, v4, v5], .int .i64 0, .slice none 0 0] w fun e w' => e = .returned (.tuple #[.pointer none, .int .i64 1]) ∧ Below w.heap.size w w' := by
  have hl : Hid (∀ o, Calls Tryz.prog 18 #[v2] (w.alloc o) fun e w' => Boo e ∧ Below (w.alloc o).heap.size (w.alloc o) w') := fun o => (Tryz.ref05Right w0 B _ (hA.alloc o) v2 h2).mono (by rintro e w' ⟨h, rfl⟩; exact ⟨h, Below.refl _ _⟩)
  have hu : Hid (∀ W, Ag w0 B W → Calls Tryz.prog 19 #[v3] W fun e w' => Boo e ∧ Below W.heap.size W w') := fun W h => Tryz.ref08Right w0 B W h v3 h3
  have hs : Hid (∀ W, Ag w0 B W → Calls Tryz.prog 20 #[v4, v5] W fun e w' => Boo e ∧ Below W.heap.size W w') := fun W h => Tryz.ref09Right w0 B W h v4 v5 h4 h5
  obtain ⟨a0, l0, c0, rfl, hl0, _⟩ := h0
  obtain ⟨a2, l2, c2, rfl, hl2, _⟩ := h2
  obtain ⟨a3, l3, c3, rfl, hl3, _⟩ := h3
  obtain ⟨a4, l4, c4, rfl, hl4, _⟩ := h4
  obtain ⟨a5, l5, c5, rfl, hl5, _⟩ := h5
  have hl0 : Hid (l0 ≤ maxLen) := hl0
  clear hl2 hl3 hl4 hl5
  go_enter Tryz.func8, Tryz.ntmps8
  go_wp2_with (first
    | (go_at_call 18
       refine (hl _).mono ?_
       rintro e w1 ⟨⟨r, rfl⟩, hb1⟩
       obtain ⟨f0, f1, f2, f3, f4, f5⟩ := six (b := w.heap.size) hb1 (by simp) (c0 := .slice a0 l0 c0) (c1 := .int .i64 s) (c2 := .slice a2 l2 c2) (c3 := .slice a3 l3 c3) (c4 := .slice a4 l4 c4) (c5 := .slice a5 l5 c5) (by simp) (by simp) (by simp) (by simp) (by simp) (by simp)
       have hw1 : Below w.heap.size w w1 := ((Below.refl _ w).alloc (Nat.le_refl _) _).trans (hb1.mono (by simp))
       have hz1 : w.heap.size < w1.heap.size := Nat.lt_of_lt_of_le (by simp) hb1.size
       clear hb1
       cases r)
    | (go_at_call 19
       refine (hu _ (hA.below hw1)).mono ?_
       rintro e w2 ⟨⟨r, rfl⟩, hb2⟩
       obtain ⟨g0, g1, g2, g3, g4, g5⟩ := six (b := w.heap.size) hb2 hz1 f0 f1 f2 f3 f4 f5
       have hw2 : Below w.heap.size w w2 := hw1.trans (hb2.mono (Nat.le_of_lt hz1))
       have hz2 : w.heap.size < w2.heap.size := Nat.lt_of_lt_of_le hz1 hb2.size
       clear hb2
       cases r)
    | (go_at_call 20
       refine (hs _ (hA.below hw2)).mono ?_
       rintro e w3 ⟨⟨r, rfl⟩, hb3⟩
       obtain ⟨k0, k1, k2, k3, k4, k5⟩ := six (b := w.heap.size) hb3 hz2 g0 g1 g2 g3 g4 g5
       have hw3 : Below w.heap.size w w3 := hw2.trans (hb3.mono (Nat.le_of_lt hz2))
       clear hb3
       cases r)
    | (go_at_call 21
       refine (Tryz.ref04New _ _ _ _ _ _ _ _ hl0).mono ?_
       rintro e w4 ⟨rfl, rfl⟩))
  all_goals first
    | (go_ret2; exact ⟨rfl, hw1⟩)
    | (go_ret2; exact ⟨rfl, hw2⟩)
    | (go_ret2; exact ⟨rfl, hw3⟩)
end Go.Proofs
/-! The law's own walk. -/
namespace Go.Proofs
open Go Go.RowKit U
namespace U
theorem Ag.alloc2 {w0 w : World} {B : Nat} (h : Ag w0 B w) (o o' : Obj) : Ag w0 B ((w.alloc o).alloc o') := (h.alloc o).alloc o'
end U
set_option maxRecDepth 100000 in
set_option maxHeartbeats 8000000 in
theorem Tryz.debugNil (hworks : ∀ w, Calls Tryz.prog 5 #[] w fun e w' => e = .returned (.bool true) ∧ Below w.heap.size w w') (w0 : World) (B : Nat) (w : World) (hA : Ag w0 B w) (kd n fu : Int) (nm : ByteArray) (s : Int) (v0 v2 v3 v4 v5 : Value) (h0 : Sl w0 B 1 (fun _ => IsB) v0) (h2 : Sl w0 B 2 row2 v2) (h3 : Sl w0 B 4 (unw w0 B) v3) (h4 : Sl w0 B 5 (placeP w0 B) v4) (h5 : Sl w0 B 3 (pointP w0 B) v5) :
    Calls Tryz.prog 3 #[.agg #[.int .u8 kd, .int .i64 n, .string nm, .int .i64 fu], .agg #[v0, .int .i64 s, v2, v3, v4, v5]] w fun e w' => e = .returned (.bool true) ∧ Below w.heap.size w w' := by
  have hs : Hid (∀ o o', Calls Tryz.prog 4 #[.agg #[v0, .int .i64 s, v2, v3, v4, v5]] ((w.alloc o).alloc o') fun e w' => Boo e ∧ Below ((w.alloc o).alloc o').heap.size ((w.alloc o).alloc o') w') := fun o o' => Tryz.small w0 B _ (hA.alloc2 o o') s v0 v2 v3 v4 v5 h0 h2 h3 h4 h5
  have hd : Hid (∀ W, Ag w0 B W → Calls Tryz.prog 7 #[.agg #[v0, .int .i64 s, v2, v3, v4, v5], .int .i64 0, .slice none 0 0] W fun e w' => e = .returned (.tuple #[.pointer none, .int .i64 1]) ∧ Below W.heap.size W w') := fun W h => Tryz.debugNew w0 B W h s v0 v2 v3 v4 v5 h0 h2 h3 h4 h5
  have hr : Hid (∀ W, Ag w0 B W → Calls Tryz.prog 8 #[.agg #[v0, .int .i64 s, v2, v3, v4, v5], .int .i64 0, .slice none 0 0] W fun e w' => e = .returned (.tuple #[.pointer none, .int .i64 1]) ∧ Below W.heap.size W w') := fun W h => Tryz.ref27New w0 B W h s v0 v2 v3 v4 v5 h0 h2 h3 h4 h5
  have hw : Hid (∀ w, Calls Tryz.prog 5 #[] w fun e w' => e = .returned (.bool true) ∧ Below w.heap.size w w') := hworks
  obtain ⟨a0, l0, c0, rfl, hl0, _⟩ := h0
  obtain ⟨a2, l2, c2, rfl, hl2, _⟩ := h2
  obtain ⟨a3, l3, c3, rfl, hl3, _⟩ := h3
  obtain ⟨a4, l4, c4, rfl, hl4, _⟩ := h4
  obtain ⟨a5, l5, c5, rfl, hl5, _⟩ := h5
  clear hl0 hl2 hl3 hl4 hl5 hworks
  go_enter Tryz.func3, Tryz.ntmps3
  go_upto_region 3 with (first
    | (go_at_call 4
       refine (hs _ _).mono ?_
       rintro e w1 ⟨⟨r, rfl⟩, hb1⟩
       obtain ⟨f0, f1, f2, f3, f4, f5⟩ := six (b := w.heap.size + 1) hb1 (by simp) (c0 := .slice a0 l0 c0) (c1 := .int .i64 s) (c2 := .slice a2 l2 c2) (c3 := .slice a3 l3 c3) (c4 := .slice a4 l4 c4) (c5 := .slice a5 l5 c5) (by simp) (by simp) (by simp) (by simp) (by simp) (by simp)
       have p0 : w1.cell? ⟨w.heap.size, 0, none⟩ = some (.int .u8 kd) := (hb1.cell (p := ⟨w.heap.size, 0, none⟩) (by simp; omega)).trans (by simp)
       have p1 : w1.cell? ⟨w.heap.size, 1, none⟩ = some (.int .i64 n) := (hb1.cell (p := ⟨w.heap.size, 1, none⟩) (by simp; omega)).trans (by simp)
       have p2 : w1.cell? ⟨w.heap.size, 2, none⟩ = some (.string nm) := (hb1.cell (p := ⟨w.heap.size, 2, none⟩) (by simp; omega)).trans (by simp)
       have p3 : w1.cell? ⟨w.heap.size, 3, none⟩ = some (.int .i64 fu) := (hb1.cell (p := ⟨w.heap.size, 3, none⟩) (by simp; omega)).trans (by simp)
       have hw1 : Below w.heap.size w w1 := (((Below.refl _ w).alloc (Nat.le_refl _) _).alloc (by simp) _).trans (hb1.mono (by simp; omega))
       have hz1 : w.heap.size + 1 < w1.heap.size := Nat.lt_of_lt_of_le (by simp) hb1.size
       clear hb1
       cases r)
    | (go_at_call 5
       refine (hw _).mono ?_
       rintro e w2 ⟨rfl, hb2⟩))
  all_goals first
    | (go_ret; exact ⟨rfl, hw1.trans (hb2.mono (by omega))⟩)
    | skip
  go_wp2_with (first
    | (go_at_call 6
       refine (Tryz.doNil _ _ _ _ _).mono ?_
       rintro e w2 ⟨rfl, hb2⟩
       obtain ⟨g0, g1, g2, g3, g4, g5⟩ := six (b := w.heap.size + 1) hb2 hz1 f0 f1 f2 f3 f4 f5
       have hw2 : Below w.heap.size w w2 := hw1.trans (hb2.mono (by omega))
       have hz2 : w.heap.size + 1 < w2.heap.size := Nat.lt_of_lt_of_le hz1 hb2.size
       have q0 : ∀ o, (w2.alloc o).cell? ⟨w.heap.size + 1, 0, none⟩ = some (.slice a0 l0 c0) := fun o => (World.cell?_alloc_lt w2 o ⟨w.heap.size + 1, 0, none⟩ hz2).trans g0
       have q1 : ∀ o, (w2.alloc o).cell? ⟨w.heap.size + 1, 1, none⟩ = some (.int .i64 s) := fun o => (World.cell?_alloc_lt w2 o ⟨w.heap.size + 1, 1, none⟩ hz2).trans g1
       have q2 : ∀ o, (w2.alloc o).cell? ⟨w.heap.size + 1, 2, none⟩ = some (.slice a2 l2 c2) := fun o => (World.cell?_alloc_lt w2 o ⟨w.heap.size + 1, 2, none⟩ hz2).trans g2
       have q3 : ∀ o, (w2.alloc o).cell? ⟨w.heap.size + 1, 3, none⟩ = some (.slice a3 l3 c3) := fun o => (World.cell?_alloc_lt w2 o ⟨w.heap.size + 1, 3, none⟩ hz2).trans g3
       have q4 : ∀ o, (w2.alloc o).cell? ⟨w.heap.size + 1, 4, none⟩ = some (.slice a4 l4 c4) := fun o => (World.cell?_alloc_lt w2 o ⟨w.heap.size + 1, 4, none⟩ hz2).trans g4
       have q5 : ∀ o, (w2.alloc o).cell? ⟨w.heap.size + 1, 5, none⟩ = some (.slice a5 l5 c5) := fun o => (World.cell?_alloc_lt w2 o ⟨w.heap.size + 1, 5, none⟩ hz2).trans g5
       clear hb2 g0 g1 g2 g3 g4 g5)
    | (go_at_call 7
       refine (hd _ ((hA.below hw2).alloc _)).mono ?_
       rintro e w3 ⟨rfl, hb3⟩
       obtain ⟨k0, k1, k2, k3, k4, k5⟩ := six (b := w.heap.size + 1) hb3 (by simp; omega) (q0 _) (q1 _) (q2 _) (q3 _) (q4 _) (q5 _)
       obtain ⟨r0, r1, r2, r3, r4, r5⟩ := six (b := w2.heap.size) hb3 (by simp) (c0 := .int .i64 2) (c1 := .int .u8 0) (c2 := .int .i64 0) (c3 := .slice none 0 0) (c4 := .slice none 0 0) (c5 := .slice none 0 0) (by simp) (by simp) (by simp) (by simp) (by simp) (by simp)
       have hw3 : Below w.heap.size w w3 := (hw2.alloc hw2.size _).trans (hb3.mono (by simp; omega))
       have hz3 : w2.heap.size < w3.heap.size := Nat.lt_of_lt_of_le (by simp) hb3.size
       clear hb3 q0 q1 q2 q3 q4 q5)
    | (go_at_call 8
       refine (hr _ (hA.below hw3)).mono ?_
       rintro e w4 ⟨rfl, hb4⟩
       obtain ⟨m0, m1, m2, m3, m4, m5⟩ := six (b := w2.heap.size) hb4 hz3 r0 r1 r2 r3 r4 r5
       have hw4 : Below w.heap.size w w4 := hw3.trans (hb4.mono hw3.size)
       clear hb4 r0 r1 r2 r3 r4 r5)
    | (go_at_call 5
       refine (hw _).mono ?_
       rintro e w5 ⟨rfl, hb5⟩
       have hw5 : Below w.heap.size w w5 := hw4.trans (hb5.mono hw4.size)))
  go_ret; exact ⟨rfl, hw5⟩
end Go.Proofs
