/- Walks: functions that look at tables end with a truth value and leave what lay before. The tables are well formed in memory. -/
import Derived.Test.YtlmhfmlbkaabcaaGreatDoorProg
import Derived.WalkKit
import Derived.KernelRfl
import Derived.Laws.IdiomStrings
import Derived.Deep.DeepCutAuto
import Derived.Deep.CutRange
import Derived.Deep.Slices
import Derived.SizedLaws
import Derived.OpenShut
import Derived.Deep.Draws
/-! What is well formed in memory that lay before; the first walks. -/
namespace Go.Proofs
open Go Go.RowKit
namespace U
def IsI (v : Value) : Prop := ∃ x : Int, v = .int .i64 x
def IsB (v : Value) : Prop := ∃ x : Int, v = .int .u8 x
def IsS (v : Value) : Prop := ∃ s : ByteArray, v = .string s ∧ s.size ≤ maxLen
/-- A slice of elements of E cells each; its array lies below block B. -/
def Sl (w : World) (B E : Nat) (p : Nat → Value → Prop) (v : Value) : Prop :=
  ∃ (ao : Option Addr) (len cap : Nat), v = .slice ao len cap ∧ len ≤ maxLen ∧ ∀ i, i < len → ∃ b off, ao = some ⟨b, off, none⟩ ∧ b < B ∧ ∀ j, j < E → ∃ u, w.cell? ⟨b, off + i * E + j, none⟩ = some u ∧ p j u
theorem Sl.mono {w w' : World} {B E : Nat} {p q : Nat → Value → Prop} {v : Value} (h : Sl w B E p v) (hb : ∀ b, b < B → w'.heap[b]? = w.heap[b]?) (hq : ∀ j u, p j u → q j u) : Sl w' B E q v := by
  obtain ⟨ao, len, cap, rfl, hl, hc⟩ := h
  refine ⟨ao, len, cap, rfl, hl, fun i hi => ?_⟩
  obtain ⟨b, off, e, hlt, hj⟩ := hc i hi
  refine ⟨b, off, e, hlt, fun j hjE => ?_⟩
  obtain ⟨u, h1, h2⟩ := hj j hjE
  refine ⟨u, ?_, hq j u h2⟩
  rw [← h1]
  simp only [World.cell?, hb b hlt]
def row2 (_ : Nat) (v : Value) : Prop := IsI v
end U
open U

set_option maxHeartbeats 2000000 in
theorem Tryz.linesRight (B : Nat) (w : World) (hB : B ≤ w.heap.size) (v : Value) (hv : Sl w B 2 row2 v) :
    Calls Tryz.prog 13 #[v] w fun e w' => (∃ r, e = .returned (.bool r)) ∧ Below w.heap.size w w' := by
  obtain ⟨ao, len, cap, rfl, hlen, hc⟩ := hv
  unfold maxLen at hlen
  go_enter Tryz.func13, Tryz.ntmps13
  go_wp2
  go_loopw [3, 8] (fun last i wr => ∃ (k : Nat) (n : Int), k ≤ len ∧ i = .int .i64 k ∧ last = .int .i64 n ∧ Below w.heap.size w wr) (fun _ i _ => len - (intOf i).toNat)
  case atStart => exact ⟨0, _, Nat.zero_le _, rfl, rfl, Below.refl _ _⟩
  case round =>
    obtain ⟨k, n, hk, rfl, rfl, hbel⟩ := hrel
    by_cases hlt : k < len
    · obtain ⟨b, off, rfl, hb, hj⟩ := hc k hlt
      obtain ⟨_, hx, x, rfl⟩ := hj 0 (by decide)
      obtain ⟨_, hy, y, rfl⟩ := hj 1 (by decide)
      have hx' : wr.cell? ⟨b, off + k * 2, none⟩ = some (.int .i64 x) := (hbel.cell (p := ⟨b, off + k * 2, none⟩) (Nat.lt_of_lt_of_le hb hB)).trans hx
      have hy' : wr.cell? ⟨b, off + k * 2 + 1, none⟩ = some (.int .i64 y) := (hbel.cell (p := ⟨b, off + k * 2 + 1, none⟩) (Nat.lt_of_lt_of_le hb hB)).trans hy
      clear hc hj hx hy
      go_wp2
      all_goals first
        | (go_roundw
           case rel => exact ⟨k + 1, _, hlt, by go_num, rfl, hbel.alloc hbel.size _⟩
           case measure => simp [intOf]; omega)
        | (go_ret; exact ⟨by simp, hbel.alloc hbel.size _⟩)
    · clear hc
      go_wp2
      go_ret; exact ⟨⟨_, rfl⟩, hbel⟩

set_option maxHeartbeats 2000000 in
theorem Tryz.rightRegs (B : Nat) (w : World) (hB : B ≤ w.heap.size) (v : Value) (hv : Sl w B 2 row2 v) :
    Calls Tryz.prog 37 #[v] w fun e w' => (∃ r, e = .returned (.bool r)) ∧ Below w.heap.size w w' := by
  obtain ⟨ao, len, cap, rfl, hlen, hc⟩ := hv
  unfold maxLen at hlen
  go_enter Tryz.func37, Tryz.ntmps37
  go_wp2
  go_loopw [3, 8] (fun last i wr => ∃ (k : Nat) (n : Int), k ≤ len ∧ i = .int .i64 k ∧ last = .int .i64 n ∧ Below w.heap.size w wr) (fun _ i _ => len - (intOf i).toNat)
  case atStart => exact ⟨0, _, Nat.zero_le _, rfl, rfl, Below.refl _ _⟩
  case round =>
    obtain ⟨k, n, hk, rfl, rfl, hbel⟩ := hrel
    by_cases hlt : k < len
    · obtain ⟨b, off, rfl, hb, hj⟩ := hc k hlt
      obtain ⟨_, hx, x, rfl⟩ := hj 0 (by decide)
      obtain ⟨_, hy, y, rfl⟩ := hj 1 (by decide)
      have hx' : wr.cell? ⟨b, off + k * 2, none⟩ = some (.int .i64 x) := (hbel.cell (p := ⟨b, off + k * 2, none⟩) (Nat.lt_of_lt_of_le hb hB)).trans hx
      have hy' : wr.cell? ⟨b, off + k * 2 + 1, none⟩ = some (.int .i64 y) := (hbel.cell (p := ⟨b, off + k * 2 + 1, none⟩) (Nat.lt_of_lt_of_le hb hB)).trans hy
      clear hc hj hx hy
      go_wp2
      all_goals first
        | (go_roundw
           case rel => exact ⟨k + 1, _, hlt, by go_num, rfl, hbel.alloc hbel.size _⟩
           case measure => simp [intOf]; omega)
        | (go_ret; exact ⟨by simp, hbel.alloc hbel.size _⟩)
    · clear hc
      go_wp2
      go_ret; exact ⟨⟨_, rfl⟩, hbel⟩
end Go.Proofs
namespace Go.Proofs
open Go Go.RowKit U
namespace U
/-- From, To, Up, Regs. -/
def unw (w : World) (B j : Nat) (v : Value) : Prop := match j with | 3 => Sl w B 2 row2 v | _ => IsI v
end U
set_option maxHeartbeats 4000000 in
theorem Tryz.unwindRight (B : Nat) (w : World) (hB : B ≤ w.heap.size) (v : Value) (hv : Sl w B 4 (unw w B) v) :
    Calls Tryz.prog 14 #[v] w fun e w' => (∃ r, e = .returned (.bool r)) ∧ Below w.heap.size w w' := by
  obtain ⟨ao, len, cap, rfl, hlen, hc⟩ := hv
  unfold maxLen at hlen
  go_enter Tryz.func14, Tryz.ntmps14
  go_wp2
  go_loopw [3, 8] (fun last i wr => ∃ (k : Nat) (n : Int), k ≤ len ∧ i = .int .i64 k ∧ last = .int .i64 n ∧ Below w.heap.size w wr) (fun _ i _ => len - (intOf i).toNat)
  case atStart => exact ⟨0, _, Nat.zero_le _, rfl, rfl, Below.refl _ _⟩
  case round =>
    obtain ⟨k, n, hk, rfl, rfl, hbel⟩ := hrel
    by_cases hlt : k < len
    · obtain ⟨b, off, rfl, hb, hj⟩ := hc k hlt
      obtain ⟨_, h0, x0, rfl⟩ := hj 0 (by decide)
      obtain ⟨_, h1, x1, rfl⟩ := hj 1 (by decide)
      obtain ⟨_, h2, x2, rfl⟩ := hj 2 (by decide)
      obtain ⟨v3, h3, hs3⟩ := hj 3 (by decide)
      have hs3 : Sl w B 2 row2 v3 := hs3
      have g0 : wr.cell? ⟨b, off + k * 4, none⟩ = some (.int .i64 x0) := (hbel.cell (p := ⟨b, off + k * 4, none⟩) (Nat.lt_of_lt_of_le hb hB)).trans h0
      have g1 : wr.cell? ⟨b, off + k * 4 + 1, none⟩ = some (.int .i64 x1) := (hbel.cell (p := ⟨b, off + k * 4 + 1, none⟩) (Nat.lt_of_lt_of_le hb hB)).trans h1
      have g2 : wr.cell? ⟨b, off + k * 4 + 2, none⟩ = some (.int .i64 x2) := (hbel.cell (p := ⟨b, off + k * 4 + 2, none⟩) (Nat.lt_of_lt_of_le hb hB)).trans h2
      have g3 : wr.cell? ⟨b, off + k * 4 + 3, none⟩ = some v3 := (hbel.cell (p := ⟨b, off + k * 4 + 3, none⟩) (Nat.lt_of_lt_of_le hb hB)).trans h3
      have hcall : ∀ W : World, B ≤ W.heap.size → (∀ b, b < B → W.heap[b]? = w.heap[b]?) → Calls Tryz.prog 37 #[v3] W fun e w' => (∃ r, e = .returned (.bool r)) ∧ Below W.heap.size W w' :=
        fun W h1 h2 => Tryz.rightRegs B W h1 v3 (hs3.mono h2 fun _ _ h => h)
      obtain ⟨a3, l3, c3, rfl, _, _⟩ := hs3
      clear hc hj h0 h1 h2 h3
      have hbw : ∀ b, b < B → wr.heap[b]? = w.heap[b]? := fun b hb => hbel.block b (Nat.lt_of_lt_of_le hb hB)
      have hsz := hbel.size
      go_wp2_with (first
        | (go_at_call 37; refine (hcall _ (by simp; omega) (fun b hb => (Below.heap_alloc _ _ b (by omega)).trans (hbw b hb))).mono ?_; rintro e w' ⟨⟨r, rfl⟩, hb'⟩
           have f1 : w'.cell? ⟨wr.heap.size, 1, none⟩ = some (.int .i64 x1) := (hb'.cell (p := ⟨wr.heap.size, 1, none⟩) (by simp)).trans (by simp)
           have hbw' : Below w.heap.size w w' := (hbel.alloc hbel.size _).trans (hb'.mono (by simp; omega)))
        | go_in)
      all_goals first
        | (go_roundw
           case rel => exact ⟨k + 1, _, hlt, by go_num, rfl, by assumption⟩
           case measure => simp [intOf]; omega)
        | (go_ret; exact ⟨by simp, by assumption⟩)
        | (go_ret; exact ⟨by simp, hbel.alloc hbel.size _⟩)
    · clear hc
      go_wp2
      go_ret; exact ⟨⟨_, rfl⟩, hbel⟩
end Go.Proofs
namespace Go.Proofs
open Go Go.RowKit U
set_option maxHeartbeats 4000000 in
theorem Tryz.named (w : World) (s : ByteArray) (hs : s.size ≤ maxLen) :
    Calls Tryz.prog 77 #[.string s] w fun e w' => (∃ r, e = .returned (.bool r)) ∧ Below w.heap.size w w' := by
  unfold maxLen at hs
  have hcv2 := fun w s => run_bytes_of_string (P := Tryz.prog) w 9 24 5 s Tryz.underlying9 Tryz.underlying24 Tryz.underlying5
  have hrow : ∀ i, i < s.size → ∃ x : Int, (w.drew.alloc (.cells (bytesRow s (grownCap w s.size 0 5)) 5 ((bytesRow s (grownCap w s.size 0 5)).size, (bytesRow s (grownCap w s.size 0 5)).size + 1))).cell? ⟨w.heap.size, i, none⟩ = some (.int .u8 x) := fun i hi => by
    have h1 : (w.drew.alloc (.cells (bytesRow s (grownCap w s.size 0 5)) 5 ((bytesRow s (grownCap w s.size 0 5)).size, (bytesRow s (grownCap w s.size 0 5)).size + 1))).heap[w.heap.size]? = some (.cells (bytesRow s (grownCap w s.size 0 5)) 5 ((bytesRow s (grownCap w s.size 0 5)).size, (bytesRow s (grownCap w s.size 0 5)).size + 1)) := heap_alloc_new w.drew _
    refine ⟨(s.data[i]'hi).toNat, ?_⟩
    unfold World.cell?
    rw [h1]
    exact bytesRow_at s _ i hi
  have hbel : Below w.heap.size w (w.drew.alloc (.cells (bytesRow s (grownCap w s.size 0 5)) 5 ((bytesRow s (grownCap w s.size 0 5)).size, (bytesRow s (grownCap w s.size 0 5)).size + 1))) := (Below.refl _ w).drew.alloc (Nat.le_refl _) _
  generalize hw2 : w.drew.alloc (.cells (bytesRow s (grownCap w s.size 0 5)) 5 ((bytesRow s (grownCap w s.size 0 5)).size, (bytesRow s (grownCap w s.size 0 5)).size + 1)) = w2 at hrow hbel
  have hcv := hcv2 w s
  rw [hw2] at hcv
  clear hcv2 hw2
  generalize grownCap w s.size 0 5 = cp at hcv
  go_enter Tryz.func77, Tryz.ntmps77
  go_wp2
  go_loopw [8] (fun i wr => ∃ k : Nat, k ≤ s.size ∧ i = .int .i64 k ∧ Below w.heap.size w wr ∧ ∀ i, i < s.size → ∃ x : Int, wr.cell? ⟨w.heap.size, i, none⟩ = some (.int .u8 x)) (fun i _ => s.size - (intOf i).toNat)
  case atStart => exact ⟨0, Nat.zero_le _, rfl, hbel, hrow⟩
  case round =>
    obtain ⟨k, hk, rfl, hbl, hcells⟩ := hrel
    by_cases hlt : k < s.size
    · obtain ⟨x, hx⟩ := hcells k hlt
      have hkeep : Hid (∀ i, i < s.size → ∃ x : Int, wr.cell? ⟨w.heap.size, i, none⟩ = some (.int .u8 x)) := hcells
      clear hcells hrow hcv
      go_wp2
      all_goals first
        | (go_roundw
           case rel => exact ⟨k + 1, hlt, by go_num, hbl, hkeep⟩
           case measure => simp [intOf]; omega)
        | (go_ret; exact ⟨by simp, hbl⟩)
    · clear hcells hrow hcv
      go_wp2
      all_goals (go_ret; exact ⟨by simp, hbl⟩)
end Go.Proofs
namespace Go.Proofs
open Go Go.RowKit U
namespace U
/-- It answers some truth value, and what lay before lies as it lay. -/
def Boo (e : Ending) : Prop := ∃ r : Bool, e = .returned (.bool r)
def Bv (v : Value) : Prop := ∃ r : Bool, v = .bool r
/-- Six cells of a local stay. -/
theorem six {w w' : World} {B b : Nat} (hb : Below B w w') (hlt : b < B) {c0 c1 c2 c3 c4 c5 : Value} (h0 : w.cell? ⟨b, 0, none⟩ = some c0) (h1 : w.cell? ⟨b, 1, none⟩ = some c1) (h2 : w.cell? ⟨b, 2, none⟩ = some c2) (h3 : w.cell? ⟨b, 3, none⟩ = some c3) (h4 : w.cell? ⟨b, 4, none⟩ = some c4) (h5 : w.cell? ⟨b, 5, none⟩ = some c5) :
    w'.cell? ⟨b, 0, none⟩ = some c0 ∧ w'.cell? ⟨b, 1, none⟩ = some c1 ∧ w'.cell? ⟨b, 2, none⟩ = some c2 ∧ w'.cell? ⟨b, 3, none⟩ = some c3 ∧ w'.cell? ⟨b, 4, none⟩ = some c4 ∧ w'.cell? ⟨b, 5, none⟩ = some c5 :=
  ⟨(hb.cell (p := ⟨b, 0, none⟩) hlt).trans h0, (hb.cell (p := ⟨b, 1, none⟩) hlt).trans h1, (hb.cell (p := ⟨b, 2, none⟩) hlt).trans h2, (hb.cell (p := ⟨b, 3, none⟩) hlt).trans h3, (hb.cell (p := ⟨b, 4, none⟩) hlt).trans h4, (hb.cell (p := ⟨b, 5, none⟩) hlt).trans h5⟩
end U
set_option maxRecDepth 100000 in
set_option maxHeartbeats 8000000 in
theorem Tryz.rightVar (B : Nat) (w : World) (hB : B ≤ w.heap.size) (nm tn : ByteArray) (hnm : nm.size ≤ maxLen) (htn : tn.size ≤ maxLen) (kd n words : Int) (v : Value) (hv : Sl w B 1 (fun _ => IsS) v) :
    Calls Tryz.prog 78 #[.agg #[.string nm, .int .u8 kd, .int .i64 n, .string tn, .int .i64 words, v]] w fun e w' => Boo e ∧ Below w.heap.size w w' := by
  obtain ⟨ao, len, cap, rfl, hlen, hc⟩ := hv
  unfold maxLen at hlen
  have hn : ∀ (W : World) (s : ByteArray), s.size ≤ maxLen → Calls Tryz.prog 77 #[.string s] W fun e w' => Boo e ∧ Below W.heap.size W w' := fun W s h => Tryz.named W s h
  have hc' : Hid (∀ i, i < len → ∃ b off, ao = some ⟨b, off, none⟩ ∧ b < B ∧ ∀ j, j < 1 → ∃ u, w.cell? ⟨b, off + i * 1 + j, none⟩ = some u ∧ IsS u) := hc
  have hnm' : Hid (nm.size ≤ maxLen) := hnm
  have htn' : Hid (tn.size ≤ maxLen) := htn
  clear hc hnm htn
  go_enter Tryz.func78, Tryz.ntmps78
  go_upto_region 3 with
      (go_at_call 77
       refine (hn _ _ hnm').mono ?_
       rintro e w1 ⟨⟨r, rfl⟩, hb1⟩
       obtain ⟨f0, f1, f2, f3, f4, f5⟩ := six (b := w.heap.size) hb1 (by simp) (c0 := .string nm) (c1 := .int .u8 kd) (c2 := .int .i64 n) (c3 := .string tn) (c4 := .int .i64 words) (c5 := .slice ao len cap) (by simp) (by simp) (by simp) (by simp) (by simp) (by simp)
       have hw1 : Below w.heap.size w w1 := ((Below.refl _ w).alloc (Nat.le_refl _) _).trans (hb1.mono (by simp))
       have hz1 : w.heap.size < w1.heap.size := Nat.lt_of_lt_of_le (by simp) hb1.size
       clear hb1)
  all_goals first | (go_ret; exact ⟨⟨_, rfl⟩, hw1⟩) | skip
  generalize Value.agg #[.string nm, .int .u8 kd, .int .i64 n, .string tn, .int .i64 words, .slice ao len cap] = A
  go_cut [3] (fun s3 wx => Bv s3 ∧ wx = w1)
  case first =>
    go_wp2
    all_goals (go_meet; exact ⟨⟨_, rfl⟩, rfl⟩)
  case rest =>
    obtain ⟨⟨r3, rfl⟩, rfl⟩ := hcut
    by_cases h4 : kd = 4
    · subst h4
      go_upto_region 11 with fail
      go_cut [4] (fun s4 wx => Bv s4 ∧ Below w.heap.size w wx ∧ w.heap.size < wx.heap.size ∧ wx.cell? ⟨w.heap.size, 3, none⟩ = some (.string tn) ∧ wx.cell? ⟨w.heap.size, 5, none⟩ = some (.slice ao len cap))
      case first =>
        go_wp2_with
          (go_at_call 77
           refine (hn _ _ htn').mono ?_
           rintro e w2 ⟨⟨r2, rfl⟩, hb2⟩
           obtain ⟨e0, e1, e2, e3, e4, e5⟩ := six (b := w.heap.size) hb2 hz1 f0 f1 f2 f3 f4 f5
           have hw2 : Below w.heap.size w w2 := hw1.trans (hb2.mono (Nat.le_of_lt hz1))
           have hz2 : w.heap.size < w2.heap.size := Nat.lt_of_lt_of_le hz1 hb2.size
           clear hb2)
        all_goals (go_meet; exact ⟨⟨_, rfl⟩, hw2, hz2, e3, e5⟩)
      case rest =>
        obtain ⟨⟨r4, rfl⟩, hw2, hz2, e3, e5⟩ := hcut
        clear f0 f1 f2 f3 f4 f5 hw1 hz1
        go_upto_region 13 with fail
        go_loopw [4, 95] (fun s4 i wr => Bv s4 ∧ ∃ k : Nat, k ≤ len ∧ i = .int .i64 k ∧ Below w.heap.size w wr) (fun _ i _ => len - (intOf i).toNat)
        case atStart => exact ⟨⟨_, rfl⟩, 0, Nat.zero_le _, rfl, hw2⟩
        case round =>
          obtain ⟨⟨r5, rfl⟩, k, hk, rfl, hbel⟩ := hrel
          by_cases hlt : k < len
          · obtain ⟨b, off, rfl, hb, hj⟩ := hc' k hlt
            obtain ⟨_, hx, x, rfl, hxs⟩ := hj 0 (by decide)
            have hx' : wr.cell? ⟨b, off + k, none⟩ = some (.string x) := (hbel.cell (p := ⟨b, off + k, none⟩) (Nat.lt_of_lt_of_le hb hB)).trans (by simpa using hx)
            have hxs' : Hid (x.size ≤ maxLen) := hxs
            clear hj hx hxs
            go_wp2_with
              (go_at_call 77
               refine (hn _ _ hxs').mono ?_
               rintro e w3 ⟨⟨r3, rfl⟩, hb3⟩
               have hw3 : Below w.heap.size w w3 := hbel.trans (hb3.mono hbel.size))
            all_goals (go_roundw
                       case rel => exact ⟨⟨_, rfl⟩, k + 1, hlt, by go_num, by assumption⟩
                       case measure => simp [intOf]; omega)
          · go_wp2
            all_goals (go_ret; exact ⟨⟨_, rfl⟩, hbel⟩)
    · have h4' : (kd == 4) = false := by simpa using h4
      go_wp2
      all_goals (go_ret; exact ⟨⟨_, rfl⟩, hw1⟩)
end Go.Proofs
/-! What comes in, as it is read, is well formed in memory. -/
namespace Go.Proofs
open Go Go.RowKit Go.Deep
namespace U
theorem addn (b o k : Nat) : (⟨b, o, none⟩ : Addr).add k = ⟨b, o + k, none⟩ := by unfold Addr.add; split <;> simp_all
theorem weightsAll_mem {H : Type} {P : Program} {e : TypeId} : ∀ {l : List (DataW H)} {d : DataW H}, d ∈ l → ∀ n ∈ d.weights P e, n ∈ DataW.weightsAll P e l
  | d' :: r, d, hd, n, hn => by
    simp only [DataW.weightsAll, List.mem_append]
    rcases List.mem_cons.1 hd with rfl | h
    · exact Or.inl hn
    · exact Or.inr (weightsAll_mem h n hn)
/-- Everything read weighs little. -/
def Light {H : Type} (P : Program) (t : TypeId) (d : DataW H) : Prop := ∀ z ∈ d.weights P t, z ≤ reachBytes
section
variable {H : Type} {enc : TypeId × Value → H} {P : Program} {w : World} {base : Nat} {spare : Nat → Bool} {held : Bool}
theorem fld {t : TypeId} {fs : Array Field} {fuel : Nat} {cs : List Value} {x : DataW H × List MemPlace} (ht : P.underlying t = some (.struct fs)) (h : DataW.trod enc P w base spare held fuel t cs = some x) (hw : Light P t x.1) (i : Nat) (f : Field) (hf : fs[i]? = some f) :
    ∃ n y, DataW.trod enc P w base spare held n f.type ((cs.drop f.offset).take (P.cellsOf f.type)) = some y ∧ Light P f.type y.1 := by
  obtain ⟨xs, n, rfl, rfl, hlen, hxl, hfs⟩ := DataW.trod_struct ht h
  have h1 := hfs i f hf
  have hi : i < fs.size := (Array.getElem?_eq_some_iff.1 hf).1
  rw [List.getElem?_eq_getElem (by omega)] at h1
  refine ⟨n, _, h1, fun z hz => hw z ?_⟩
  simp only [DataW.weights, ht]
  refine DataW.weights_mem_each (j := i) (t := f.type) (d := (xs[i]'(by omega)).1) ?_ ?_ z hz
  · simp [List.getElem?_map, hf]
  · simp [List.getElem?_map, List.getElem?_eq_getElem (show i < xs.length by omega)]
theorem take1 {cs : List Value} {o : Nat} {u : Value} (h : (cs.drop o).take 1 = [u]) : cs[o]? = some u := by
  have := congrArg (·[0]?) h
  simpa [List.getElem?_take, List.getElem?_drop] using this
theorem rInt {t : TypeId} {k : IntKind} {n o : Nat} {cs : List Value} {y : DataW H × List MemPlace} (ht : P.underlying t = some (.int k)) (h1 : P.cellsOf t = 1) (h : DataW.trod enc P w base spare held n t ((cs.drop o).take (P.cellsOf t)) = some y) : ∃ x : Int, cs[o]? = some (.int k x) := by
  rw [h1] at h
  obtain ⟨m, hm, _, _⟩ := DataW.trod_int ht h
  exact ⟨m, take1 hm⟩
theorem rStr {t : TypeId} {n o : Nat} {cs : List Value} {y : DataW H × List MemPlace} (ht : P.underlying t = some .string) (h1 : P.cellsOf t = 1) (h : DataW.trod enc P w base spare held n t ((cs.drop o).take (P.cellsOf t)) = some y) : ∃ s : ByteArray, cs[o]? = some (.string s) ∧ s.size ≤ maxLen := by
  rw [h1] at h
  obtain ⟨m, hm, _, hs⟩ := DataW.trod_string ht h
  exact ⟨m, take1 hm, hs⟩
theorem sl_of {t e : TypeId} {E fuel : Nat} {cs : List Value} {x : DataW H × List MemPlace} {p : Nat → Value → Prop} (ht : P.underlying t = some (.slice e)) (hE : P.cellsOf e = E) (hpos : 0 < E)
    (h : DataW.trod enc P w base spare held fuel t cs = some x) (hw : Light P t x.1)
    (hel : ∀ n cs y, DataW.trod enc P w base spare held n e cs = some y → Light P e y.1 → cs.length = E → ∀ j, j < E → ∃ u, cs[j]? = some u ∧ p j u) :
    ∃ v, cs = [v] ∧ Sl w w.heap.size E p v ∧ ∀ ao len cap, v = .slice ao len cap → len * P.bytesOf e ≤ reachBytes := by
  rcases open_slice ht h with ⟨rfl, rfl⟩ | ⟨a, len, cap, m, n, D, Pl, rfl, hb, hl, hm, hmm, rfl, hx⟩
  · refine ⟨_, rfl, ⟨none, 0, 0, rfl, Nat.zero_le _, fun i hi => absurd hi (by omega)⟩, fun ao len cap e => ?_⟩
    injection e with _ e _
    subst e
    simp
  · have hlm : len ≤ m := by rw [hmm]; split <;> omega
    refine ⟨_, rfl, ⟨_, _, _, rfl, by omega, fun i hi => ?_⟩, fun ao len' cap' e => ?_⟩
    · obtain ⟨cs', hc, htr⟩ := hx i (by omega)
      rw [hE] at hc
      obtain ⟨_, hcl, hat⟩ := World.cells?_some hc
      have hli : Light P e (D i) := fun z hz => hw z (by
        simp only [DataW.weights, ht, List.mem_cons, List.mem_append]
        exact Or.inr (Or.inl (weightsAll_mem (d := D i) (List.mem_map.2 ⟨i, by simpa using hi, rfl⟩) z hz)))
      have hall := hel n cs' _ htr hli hcl
      obtain ⟨c0, hx0, htr0⟩ := hx 0 (by omega)
      rw [hE] at hx0
      obtain ⟨_, hcl0, hat0⟩ := World.cells?_some hx0
      have h00 := hat0 0 hpos
      rw [List.getElem?_eq_getElem (by omega)] at h00
      obtain ⟨b, off, spot⟩ := a
      have hs : spot = none := by simpa [Addr.add] using World.cell?_spot h00
      subst hs
      have hlt : b < w.heap.size := by
        have := World.block_lt_of_cell? w _ h00
        simpa [addn] using this
      refine ⟨b, off, rfl, hlt, fun j hj => ?_⟩
      obtain ⟨u, hu, hp⟩ := hall j hj
      refine ⟨u, ?_, hp⟩
      have := hat j hj
      rw [addn, addn] at this
      rw [this, hu]
    · injection e with _ e _
      subst e
      have := hw ((((List.range len).map D).length + ((List.range (m - len)).map fun j => D (len + j)).length) * P.bytesOf e) (by
        simp only [DataW.weights, ht]
        exact List.mem_cons_self ..)
      refine Nat.le_trans (Nat.mul_le_mul_right _ ?_) this
      simp
theorem rSl {t e : TypeId} {E n o : Nat} {cs : List Value} {y : DataW H × List MemPlace} {p : Nat → Value → Prop} (ht : P.underlying t = some (.slice e)) (h1 : P.cellsOf t = 1) (hE : P.cellsOf e = E) (hpos : 0 < E)
    (h : DataW.trod enc P w base spare held n t ((cs.drop o).take (P.cellsOf t)) = some y) (hw : Light P t y.1)
    (hel : ∀ n cs y, DataW.trod enc P w base spare held n e cs = some y → Light P e y.1 → cs.length = E → ∀ j, j < E → ∃ u, cs[j]? = some u ∧ p j u) :
    ∃ v, cs[o]? = some v ∧ Sl w w.heap.size E p v ∧ ∀ ao len cap, v = .slice ao len cap → len * P.bytesOf e ≤ reachBytes := by
  rw [h1] at h
  obtain ⟨v, hv, hs⟩ := sl_of ht hE hpos h hw hel
  exact ⟨v, take1 hv, hs⟩
end
/-! The kinds of rows. -/
def locP (j : Nat) (v : Value) : Prop := match j with | 0 => IsB v | _ => IsI v
def atP (w : World) (B : Nat) (v : Value) : Prop := Sl w B 2 locP v ∧ ∀ ao len cap, v = .slice ao len cap → len * 16 ≤ reachBytes
def spanP (w : World) (B j : Nat) (v : Value) : Prop := match j with | 2 => atP w B v | _ => IsI v
def spansP (w : World) (B : Nat) (v : Value) : Prop := Sl w B 3 (spanP w B) v
def varP (w : World) (B j : Nat) (v : Value) : Prop := match j with | 0 => IsS v | 1 => IsB v | 2 => IsI v | 3 => IsS v | 4 => IsI v | _ => Sl w B 1 (fun _ => IsS) v
def placeP (w : World) (B j : Nat) (v : Value) : Prop := match j with | 0 => IsS v | 1 => IsI v | 2 => IsI v | 3 => Sl w B 6 (varP w B) v | _ => Sl w B 1 (fun _ => spansP w B) v
def pointP (w : World) (B j : Nat) (v : Value) : Prop := match j with | 2 => Sl w B 1 (fun _ => IsI) v | _ => IsI v
section
variable {H : Type} {enc : TypeId × Value → H} {w : World} {base : Nat} {spare : Nat → Bool} {held : Bool}
end
end U
end Go.Proofs
/-! The walks of the functions that look alone. -/
namespace Go.Proofs
open Go Go.RowKit U
namespace U
/-- The memory that lay first is as it was. -/
structure Ag (w0 : World) (B : Nat) (w : World) : Prop where
  size : B ≤ w.heap.size
  blk : ∀ b, b < B → w.heap[b]? = w0.heap[b]?
theorem Ag.refl (w : World) : Ag w w.heap.size w := ⟨Nat.le_refl _, fun _ _ => rfl⟩
theorem Ag.below {w0 w w' : World} {B : Nat} (h : Ag w0 B w) (hb : Below w.heap.size w w') : Ag w0 B w' :=
  ⟨Nat.le_trans h.size hb.size, fun b hlt => (hb.block b (Nat.lt_of_lt_of_le hlt h.size)).trans (h.blk b hlt)⟩
theorem Ag.cell {w0 w : World} {B b o : Nat} (h : Ag w0 B w) (hlt : b < B) : w.cell? ⟨b, o, none⟩ = w0.cell? ⟨b, o, none⟩ := by simp only [World.cell?, h.blk b hlt]
theorem Ag.alloc {w0 w : World} {B : Nat} (h : Ag w0 B w) (o : Obj) : Ag w0 B (w.alloc o) := h.below ((Below.refl _ w).alloc (Nat.le_refl _) o)
theorem below_drewN {B : Nat} {w W : World} (h : Below B w W) (n : Nat) : Below B w (W.drewN n) := ⟨h.os, h.tape, h.output, h.size, h.block⟩
theorem Sl.to {w0 w : World} {B E : Nat} {p : Nat → Value → Prop} {v : Value} (hv : Sl w0 B E p v) (hA : Ag w0 B w) : Sl w B E p v := hv.mono hA.blk fun _ _ h => h
end U

set_option maxHeartbeats 2000000 in
theorem Tryz.ref05Right (w0 : World) (B : Nat) (w : World) (hA : Ag w0 B w) (v : Value) (hv : Sl w0 B 2 row2 v) :
    Calls Tryz.prog 18 #[v] w fun e w' => Boo e ∧ w = w' := by
  obtain ⟨ao, len, cap, rfl, hlen, hc⟩ := hv
  unfold maxLen at hlen
  go_enter Tryz.func18, Tryz.ntmps18
  go_wp2
  go_loop [3, 4] (fun last i => ∃ (k : Nat) (n : Int), k ≤ len ∧ i = .int .i64 k ∧ last = .int .i64 n) (fun _ i => len - (intOf i).toNat)
  case atStart => exact ⟨0, _, Nat.zero_le _, rfl, rfl⟩
  case round =>
    obtain ⟨k, n, hk, rfl, rfl⟩ := hrel
    by_cases hlt : k < len
    · obtain ⟨b, off, rfl, hb, hj⟩ := hc k hlt
      obtain ⟨_, h0, x0, rfl⟩ := hj 0 (by decide)
      obtain ⟨_, h1, x1, rfl⟩ := hj 1 (by decide)
      have g0 : w.cell? ⟨b, off + k * 2, none⟩ = some (.int .i64 x0) := (hA.cell hb).trans h0
      have g1 : w.cell? ⟨b, off + k * 2 + 1, none⟩ = some (.int .i64 x1) := (hA.cell hb).trans h1
      clear hc hj h0 h1
      go_wp2
      all_goals first
        | (go_round
           case rel => exact ⟨k + 1, _, hlt, by go_num, rfl⟩
           case measure => simp [intOf]; omega)
        | (go_ret; exact ⟨⟨_, rfl⟩, rfl⟩)
    · clear hc
      go_wp2
      all_goals (go_ret; exact ⟨⟨_, rfl⟩, rfl⟩)

set_option maxHeartbeats 4000000 in
theorem Tryz.ref06Right (w0 : World) (B : Nat) (w : World) (hA : Ag w0 B w) (v : Value) (hv : Sl w0 B 2 locP v) :
    Calls Tryz.prog 136 #[v] w fun e w' => Boo e ∧ w = w' := by
  obtain ⟨ao, len, cap, rfl, hlen, hc⟩ := hv
  unfold maxLen at hlen
  go_enter Tryz.func136, Tryz.ntmps136
  go_wp2
  go_loop [3, 4] (fun last i => ∃ (k : Nat) (n : Int), k ≤ len ∧ i = .int .i64 k ∧ last = .int .i64 n) (fun _ i => len - (intOf i).toNat)
  case atStart => exact ⟨0, _, Nat.zero_le _, rfl, rfl⟩
  case round =>
    obtain ⟨k, n, hk, rfl, rfl⟩ := hrel
    by_cases hlt : k < len
    · obtain ⟨b, off, rfl, hb, hj⟩ := hc k hlt
      obtain ⟨_, h0, x0, rfl⟩ := hj 0 (by decide)
      obtain ⟨_, h1, x1, rfl⟩ := hj 1 (by decide)
      have g0 : w.cell? ⟨b, off + k * 2, none⟩ = some (.int .u8 x0) := (hA.cell hb).trans h0
      have g1 : w.cell? ⟨b, off + k * 2 + 1, none⟩ = some (.int .i64 x1) := (hA.cell hb).trans h1
      clear hc hj h0 h1
      go_wp2
      all_goals first
        | (go_round
           case rel => exact ⟨k + 1, _, hlt, by go_num, rfl⟩
           case measure => simp [intOf]; omega)
        | (go_ret; exact ⟨⟨_, rfl⟩, rfl⟩)
    · clear hc
      go_wp2
      all_goals (go_ret; exact ⟨⟨_, rfl⟩, rfl⟩)

set_option maxHeartbeats 2000000 in
theorem Tryz.ref09Name (w : World) (s : ByteArray) (hs : s.size ≤ maxLen) :
    Calls Tryz.prog 82 #[.string s] w fun e w' => Boo e ∧ w = w' := by
  unfold maxLen at hs
  go_enter Tryz.func82, Tryz.ntmps82
  go_wp2
  go_loop [3] (fun i => ∃ k : Nat, k ≤ s.size ∧ i = .int .i64 k) (fun i => s.size - (intOf i).toNat)
  case atStart => exact ⟨0, Nat.zero_le _, rfl⟩
  case round =>
    obtain ⟨k, hk, rfl⟩ := hrel
    by_cases hlt : k < s.size
    · go_wp2
      all_goals first
        | (go_round
           case rel => exact ⟨k + 1, hlt, by go_num⟩
           case measure => simp [intOf]; omega)
        | (go_ret; exact ⟨⟨_, rfl⟩, rfl⟩)
    · go_wp2
      all_goals (go_ret; exact ⟨⟨_, rfl⟩, rfl⟩)
end Go.Proofs
namespace Go.Proofs
open Go Go.RowKit U
set_option maxHeartbeats 2000000 in
theorem Tryz.cpuNew (w : World) (a b : Option Addr) (la ca lb cb : Nat) (s : Int) (ha : la ≤ maxLen) :
    Calls Tryz.prog 16 #[.slice a la ca, .int .i64 s, .int .i64 0, .slice b lb cb] w fun e w' => e = .returned (.tuple #[.pointer none, .int .i64 1]) ∧ w = w' := by
  unfold maxLen at ha
  go_enter Tryz.func16, Tryz.ntmps16
  go_wp2
  all_goals (go_ret2; exact ⟨rfl, rfl⟩)
set_option maxHeartbeats 2000000 in
theorem Tryz.ref04New (w : World) (a b : Option Addr) (la ca lb cb : Nat) (s : Int) (ha : la ≤ maxLen) :
    Calls Tryz.prog 21 #[.slice a la ca, .int .i64 s, .int .i64 0, .slice b lb cb] w fun e w' => e = .returned (.tuple #[.pointer none, .int .i64 1]) ∧ w = w' := by
  unfold maxLen at ha
  go_enter Tryz.func21, Tryz.ntmps21
  go_wp2
  all_goals (go_ret2; exact ⟨rfl, rfl⟩)
set_option maxHeartbeats 2000000 in
theorem Tryz.doNil (w : World) (k n f : Int) (s : ByteArray) :
    Calls Tryz.prog 6 #[.pointer none, .agg #[.int .u8 k, .int .i64 n, .string s, .int .i64 f]] w fun e w' => e = .returned (.agg #[.int .i64 2, .int .u8 0, .int .i64 0, .slice none 0 0, .slice none 0 0, .slice none 0 0]) ∧ Below w.heap.size w w' := by
  go_enter Tryz.func6, Tryz.ntmps6
  go_wp2
  exact bodyPost_ret (v := .agg #[.int .i64 2, .int .u8 0, .int .i64 0, .slice none 0 0, .slice none 0 0, .slice none 0 0]) (by simp [results, Tryz.results6, go_sem]) rfl ⟨rfl, ((Below.refl _ w).alloc (Nat.le_refl _) _).alloc (by simp) _⟩
theorem Tryz.takes511 (w : World) (n : Int) : Calls Tryz.prog 511 #[.int .i64 n] w fun e w' => e = .returned (.int .i64 0) ∧ Below w.heap.size w w' := by
  go_enter Tryz.func511, Tryz.ntmps511
  go_wp2
  go_ret; exact ⟨rfl, Below.refl _ _⟩
theorem Tryz.takes513 (w : World) (n : Int) : Calls Tryz.prog 513 #[.int .i64 n] w fun e w' => e = .returned (.int .i64 0) ∧ Below w.heap.size w w' := by
  go_enter Tryz.func513, Tryz.ntmps513
  go_wp2
  go_ret; exact ⟨rfl, Below.refl _ _⟩
theorem Tryz.takes515 (w : World) (n : Int) : Calls Tryz.prog 515 #[.int .i64 n] w fun e w' => e = .returned (.int .i64 0) ∧ Below w.heap.size w w' := by
  go_enter Tryz.func515, Tryz.ntmps515
  go_wp2
  go_ret; exact ⟨rfl, Below.refl _ _⟩
theorem Tryz.takes517 (w : World) : Calls Tryz.prog 517 #[.agg #[]] w fun e w' => e = .returned (.int .i64 1) ∧ Below w.heap.size w w' := by
  go_enter Tryz.func517, Tryz.ntmps517
  go_wp2
  go_ret; exact ⟨rfl, (Below.refl _ _).alloc (Nat.le_refl _) _⟩
theorem Tryz.takes519 (w : World) : Calls Tryz.prog 519 #[.agg #[]] w fun e w' => e = .returned (.int .i64 2) ∧ Below w.heap.size w w' := by
  go_enter Tryz.func519, Tryz.ntmps519
  go_wp2
  go_ret; exact ⟨rfl, (Below.refl _ _).alloc (Nat.le_refl _) _⟩
theorem Tryz.takes521 (w : World) : Calls Tryz.prog 521 #[.agg #[]] w fun e w' => e = .returned (.int .i64 1) ∧ Below w.heap.size w w' := by
  go_enter Tryz.func521, Tryz.ntmps521
  go_wp2
  go_ret; exact ⟨rfl, (Below.refl _ _).alloc (Nat.le_refl _) _⟩
end Go.Proofs
