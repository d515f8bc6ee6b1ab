/- Walks: the references of tables end with a truth value and leave what lay before. The tables are well formed in memory. -/
import Derived.Test.YtlmhfmlbkaabcaaGreatDoorU1
import Derived.Deep.QuietTactic
import Derived.BigQuiet
import Derived.Deep.RegionWith
import Derived.StillTailTactics
import Derived.Deep.DeepCutAuto
namespace Go.Proofs
open Go Go.RowKit U
set_option maxRecDepth 100000 in
set_option maxHeartbeats 8000000 in
theorem Tryz.ref09RightVar (w0 : World) (B : Nat) (w : World) (hA : Ag w0 B w) (nm tn : ByteArray) (hnm : nm.size ≤ maxLen) (htn : tn.size ≤ maxLen) (kd n words : Int) (v : Value) (hv : Sl w0 B 1 (fun _ => IsS) v) :
    Calls Tryz.prog 83 #[.agg #[.string nm, .int .u8 kd, .int .i64 n, .string tn, .int .i64 words, v]] w fun e w' => Boo e ∧ Below w.heap.size w w' := by
  obtain ⟨ao, len, cap, rfl, hlen, hc⟩ := hv
  unfold maxLen at hlen
  have hn : ∀ (W : World) (s : ByteArray), s.size ≤ maxLen → Calls Tryz.prog 82 #[.string s] W fun e w' => Boo e ∧ W = w' := fun W s h => Tryz.ref09Name W s h
  have hc' : Hid (∀ i, i < len → ∃ b off, ao = some ⟨b, off, none⟩ ∧ b < B ∧ ∀ j, j < 1 → ∃ u, w0.cell? ⟨b, off + i * 1 + j, none⟩ = some u ∧ IsS u) := hc
  have hnm' : Hid (nm.size ≤ maxLen) := hnm
  have htn' : Hid (tn.size ≤ maxLen) := htn
  clear hc hnm htn
  by_cases h4 : kd = 4
  · subst h4
    go_enter Tryz.func83, Tryz.ntmps83
    go_wp2_with
      (go_at_call 82
       refine (hn _ _ hnm').mono ?_
       rintro e w1 ⟨⟨r, rfl⟩, rfl⟩; cases r)
    all_goals first | (go_ret; exact ⟨⟨_, rfl⟩, (Below.refl _ _).alloc (Nat.le_refl _) _⟩) | skip
    go_loop [3] (fun i => ∃ k : Nat, k ≤ len ∧ i = .int .i64 k) (fun i => len - (intOf i).toNat)
    case atStart => exact ⟨0, Nat.zero_le _, rfl⟩
    case round =>
      obtain ⟨k, hk, rfl⟩ := hrel
      by_cases hlt : k < len
      · obtain ⟨b, off, rfl, hb, hj⟩ := hc' k hlt
        obtain ⟨_, hx, x, rfl, hxs⟩ := hj 0 (by decide)
        have hx' : ∀ o, (w.alloc o).cell? ⟨b, off + k, none⟩ = some (.string x) := fun o => ((hA.alloc o).cell hb).trans (by simpa using hx)
        have hxs' : Hid (x.size ≤ maxLen) := hxs
        clear hj hx hxs
        go_wp2_with
          (go_at_call 82
           refine (hn _ _ hxs').mono ?_
           rintro e w1 ⟨⟨r1, rfl⟩, rfl⟩)
        all_goals first
          | (go_round
             case rel => exact ⟨k + 1, hlt, by go_num⟩
             case measure => simp [intOf]; omega)
          | (go_ret; exact ⟨⟨_, rfl⟩, (Below.refl _ _).alloc (Nat.le_refl _) _⟩)
      · go_wp2_with
          (go_at_call 82
           refine (hn _ _ htn').mono ?_
           rintro e w1 ⟨⟨r1, rfl⟩, rfl⟩)
        all_goals (go_ret; exact ⟨⟨_, rfl⟩, (Below.refl _ _).alloc (Nat.le_refl _) _⟩)
  · have h4' : (kd == 4) = false := by simpa using h4
    go_enter Tryz.func83, Tryz.ntmps83
    go_wp2_with
      (go_at_call 82
       refine (hn _ _ hnm').mono ?_
       rintro e w1 ⟨⟨r, rfl⟩, rfl⟩; cases r)
    all_goals (go_ret; exact ⟨⟨_, rfl⟩, (Below.refl _ _).alloc (Nat.le_refl _) _⟩)
end Go.Proofs
namespace Go.Proofs
open Go Go.RowKit U
set_option maxRecDepth 100000 in
set_option maxHeartbeats 1000000 in
theorem Tryz.ref07Right (w0 : World) (B : Nat) (w : World) (hA : Ag w0 B w) (v : Value) (hv : spansP w0 B v) :
    Calls Tryz.prog 84 #[v] w fun e w' => Boo e ∧ Below w.heap.size w w' := by
  obtain ⟨ao, len, cap, rfl, hlen, hc⟩ := hv
  unfold maxLen at hlen
  have hc' : Hid (∀ i, i < len → ∃ b off, ao = some ⟨b, off, none⟩ ∧ b < B ∧ ∀ j, j < 3 → ∃ u, w0.cell? ⟨b, off + i * 3 + j, none⟩ = some u ∧ spanP w0 B j u) := hc
  clear hc
  go_enter Tryz.func84, Tryz.ntmps84
  go_wp2
  go_loopw [3, 4] (fun last i wr => ∃ (k : Nat) (n : Int), k ≤ len ∧ i = .int .i64 k ∧ last = .int .i64 n ∧ Below w.heap.size w wr) (fun _ i _ => len - (intOf i).toNat)
  case atStart => exact ⟨0, _, Nat.zero_le _, rfl, rfl, Below.refl _ _⟩
  case round =>
    obtain ⟨k, n, hk, rfl, rfl, hbel⟩ := hrel
    by_cases hlt : k < len
    · obtain ⟨b, off, rfl, hb, hj⟩ := hc' k hlt
      obtain ⟨_, h0, x0, rfl⟩ := hj 0 (by decide)
      obtain ⟨_, h1, x1, rfl⟩ := hj 1 (by decide)
      obtain ⟨v2, h2, hs2⟩ := hj 2 (by decide)
      have hs2 : atP w0 B v2 := hs2
      have hAr : Ag w0 B wr := hA.below hbel
      have g0 : wr.cell? ⟨b, off + k * 3, none⟩ = some (.int .i64 x0) := (hAr.cell hb).trans h0
      have g1 : wr.cell? ⟨b, off + k * 3 + 1, none⟩ = some (.int .i64 x1) := (hAr.cell hb).trans h1
      have g2 : wr.cell? ⟨b, off + k * 3 + 2, none⟩ = some v2 := (hAr.cell hb).trans h2
      have hcall : Hid (∀ W, Below wr.heap.size wr W → Calls Tryz.prog 136 #[v2] W fun e w' => Boo e ∧ W = w') := fun W h => Tryz.ref06Right w0 B W (hAr.below h) v2 hs2.1
      obtain ⟨⟨a2, l2, c2, rfl, hl2, _⟩, _⟩ := hs2
      clear hj h0 h1 h2
      go_upto_region 5 with fail
      go_cut [56] (fun s wx => Bv s ∧ Below wr.heap.size wr wx)
      case first =>
        by_cases t0 : x0 < n
        · have d0 : decide (x0 < n) = true := by simpa using t0
          clear hcall
          go_quiet (fail)
          go_wp2
          go_meet; exact ⟨⟨_, rfl⟩, below_drewN (Below.refl _ _) _⟩
        have d0 : decide (x0 < n) = false := by simpa using t0
        by_cases t1 : x1 ≤ x0
        · have d1 : decide (x1 ≤ x0) = true := by simpa using t1
          clear hcall
          go_quiet (fail)
          go_wp2
          go_meet; exact ⟨⟨_, rfl⟩, below_drewN (Below.refl _ _) _⟩
        have d1 : decide (x1 ≤ x0) = false := by simpa using t1
        by_cases t2 : 16777216 < x1
        · have d2 : decide (16777216 < x1) = true := by simpa using t2
          clear hcall
          go_quiet (fail)
          go_wp2
          go_meet; exact ⟨⟨_, rfl⟩, below_drewN (Below.refl _ _) _⟩
        have d2 : decide (16777216 < x1) = false := by simpa using t2
        by_cases t3 : l2 = 0
        · have d3 : ((l2 : Int) == 0) = true := by simpa using t3
          clear hcall
          go_quiet (fail)
          go_wp2
          go_meet; exact ⟨⟨_, rfl⟩, below_drewN (Below.refl _ _) _⟩
        have d3 : ((l2 : Int) == 0) = false := by simpa using t3
        clear t0 t1 t2 t3
        go_still_tail 43, (by kernel_rfl)
        go_wp2_with
          (go_at_call 136
           refine (hcall _ ?_).mono ?_
           · exact (Below.refl _ _).drew
           rintro e w1 ⟨⟨r1, rfl⟩, rfl⟩)
        all_goals (go_meet; exact ⟨⟨_, rfl⟩, (Below.refl _ _).drew⟩)
      case rest =>
        obtain ⟨⟨r, rfl⟩, hb2⟩ := hcut
        have g1' : wc.cell? ⟨b, off + k * 3 + 1, none⟩ = some (.int .i64 x1) := (hb2.cell (p := ⟨b, off + k * 3 + 1, none⟩) (Nat.lt_of_lt_of_le hb hAr.size)).trans g1
        have hw2 : Below w.heap.size w wc := hbel.trans (hb2.mono hbel.size)
        clear g0 g1 g2
        go_wp2
        all_goals first
          | (go_roundw
             case rel => exact ⟨k + 1, _, hlt, by go_num, rfl, by assumption⟩
             case measure => simp [intOf]; omega)
          | (go_ret; exact ⟨⟨_, rfl⟩, by assumption⟩)
    · go_wp2
      all_goals (go_ret; exact ⟨⟨_, rfl⟩, hbel⟩)
end Go.Proofs
namespace Go.Proofs
open Go Go.RowKit U
set_option maxRecDepth 100000 in
set_option maxHeartbeats 8000000 in
theorem Tryz.ref08Right (w0 : World) (B : Nat) (w : World) (hA : Ag w0 B w) (v : Value) (hv : Sl w0 B 4 (unw w0 B) v) :
    Calls Tryz.prog 19 #[v] w fun e w' => Boo e ∧ Below w.heap.size w w' := by
  obtain ⟨ao, len, cap, rfl, hlen, hc⟩ := hv
  unfold maxLen at hlen
  have hc' : Hid (∀ i, i < len → ∃ b off, ao = some ⟨b, off, none⟩ ∧ b < B ∧ ∀ j, j < 4 → ∃ u, w0.cell? ⟨b, off + i * 4 + j, none⟩ = some u ∧ unw w0 B j u) := hc
  clear hc
  go_enter Tryz.func19, Tryz.ntmps19
  go_wp2
  go_loopw [3, 4] (fun last i wr => ∃ (k : Nat) (n : Int), k ≤ len ∧ i = .int .i64 k ∧ last = .int .i64 n ∧ Below w.heap.size w wr) (fun _ i _ => len - (intOf i).toNat)
  case atStart => exact ⟨0, _, Nat.zero_le _, rfl, rfl, Below.refl _ _⟩
  case round =>
    obtain ⟨k, n, hk, rfl, rfl, hbel⟩ := hrel
    by_cases hlt : k < len
    · obtain ⟨b, off, rfl, hb, hj⟩ := hc' k hlt
      obtain ⟨_, h0, x0, rfl⟩ := hj 0 (by decide)
      obtain ⟨_, h1, x1, rfl⟩ := hj 1 (by decide)
      obtain ⟨_, h2, x2, rfl⟩ := hj 2 (by decide)
      obtain ⟨v3, h3, hs3⟩ := hj 3 (by decide)
      have hs3 : Sl w0 B 2 row2 v3 := hs3
      have hAr : Ag w0 B wr := hA.below hbel
      have g0 : wr.cell? ⟨b, off + k * 4, none⟩ = some (.int .i64 x0) := (hAr.cell hb).trans h0
      have g1 : wr.cell? ⟨b, off + k * 4 + 1, none⟩ = some (.int .i64 x1) := (hAr.cell hb).trans h1
      have g2 : wr.cell? ⟨b, off + k * 4 + 2, none⟩ = some (.int .i64 x2) := (hAr.cell hb).trans h2
      have g3 : wr.cell? ⟨b, off + k * 4 + 3, none⟩ = some v3 := (hAr.cell hb).trans h3
      obtain ⟨a3, l3, c3, rfl, hl3, hc3⟩ := hs3
      unfold maxLen at hl3
      have hc3' : Hid (∀ i, i < l3 → ∃ b off, a3 = some ⟨b, off, none⟩ ∧ b < B ∧ ∀ j, j < 2 → ∃ u, w0.cell? ⟨b, off + i * 2 + j, none⟩ = some u ∧ row2 j u) := hc3
      clear hj h0 h1 h2 h3 hc3
      go_wp2
      all_goals first
        | (go_ret; exact ⟨⟨_, rfl⟩, hbel.alloc hbel.size _⟩)
        | skip
      go_loop [6, 7] (fun last i => ∃ (k : Nat) (n : Int), k ≤ l3 ∧ i = .int .i64 k ∧ last = .int .i64 n) (fun _ i => l3 - (intOf i).toNat)
      case atStart => exact ⟨0, _, Nat.zero_le _, rfl, rfl⟩
      case round =>
        obtain ⟨k3, n3, hk3, rfl, rfl⟩ := hrel
        by_cases hlt3 : k3 < l3
        · obtain ⟨b3, off3, rfl, hb3, hj3⟩ := hc3' k3 hlt3
          obtain ⟨_, q0, y0, rfl⟩ := hj3 0 (by decide)
          obtain ⟨_, q1, y1, rfl⟩ := hj3 1 (by decide)
          have p0 : ∀ o, (wr.alloc o).cell? ⟨b3, off3 + k3 * 2, none⟩ = some (.int .i64 y0) := fun o => ((hAr.alloc o).cell hb3).trans q0
          have p1 : ∀ o, (wr.alloc o).cell? ⟨b3, off3 + k3 * 2 + 1, none⟩ = some (.int .i64 y1) := fun o => ((hAr.alloc o).cell hb3).trans q1
          clear hj3 q0 q1
          go_wp2
          all_goals first
            | (go_round
               case rel => exact ⟨k3 + 1, _, hlt3, by go_num, rfl⟩
               case measure => simp [intOf]; omega)
            | (go_ret; exact ⟨⟨_, rfl⟩, hbel.alloc hbel.size _⟩)
        · go_wp2
          all_goals first
            | (go_roundw
               case rel => exact ⟨k + 1, _, hlt, by go_num, rfl, hbel.alloc hbel.size _⟩
               case measure => simp [intOf]; omega)
            | (go_ret; exact ⟨⟨_, rfl⟩, hbel.alloc hbel.size _⟩)
    · go_wp2
      all_goals (go_ret; exact ⟨⟨_, rfl⟩, hbel⟩)
end Go.Proofs
namespace Go.Proofs
open Go Go.RowKit U
namespace U
/-- Five cells of a local stay. -/
theorem five {w w' : World} {B b : Nat} (hb : Below B w w') (hlt : b < B) {c0 c1 c2 c3 c4 : Value} (h0 : w.cell? ⟨b, 0, none⟩ = some c0) (h1 : w.cell? ⟨b, 1, none⟩ = some c1) (h2 : w.cell? ⟨b, 2, none⟩ = some c2) (h3 : w.cell? ⟨b, 3, none⟩ = some c3) (h4 : w.cell? ⟨b, 4, none⟩ = some c4) :
    w'.cell? ⟨b, 0, none⟩ = some c0 ∧ w'.cell? ⟨b, 1, none⟩ = some c1 ∧ w'.cell? ⟨b, 2, none⟩ = some c2 ∧ w'.cell? ⟨b, 3, none⟩ = some c3 ∧ w'.cell? ⟨b, 4, none⟩ = some c4 :=
  ⟨(hb.cell (p := ⟨b, 0, none⟩) hlt).trans h0, (hb.cell (p := ⟨b, 1, none⟩) hlt).trans h1, (hb.cell (p := ⟨b, 2, none⟩) hlt).trans h2, (hb.cell (p := ⟨b, 3, none⟩) hlt).trans h3, (hb.cell (p := ⟨b, 4, none⟩) hlt).trans h4⟩
end U
end Go.Proofs
namespace Go.Proofs
open Go Go.RowKit U
set_option maxRecDepth 100000 in
set_option maxHeartbeats 16000000 in
theorem Tryz.ref09Place (w0 : World) (B : Nat) (w : World) (hA : Ag w0 B w) (nm : ByteArray) (hnm : nm.size ≤ maxLen) (fr til last : Int) (v3 v4 : Value) (h3 : Sl w0 B 6 (varP w0 B) v3) (h4 : Sl w0 B 1 (fun _ => spansP w0 B) v4) :
    Calls Tryz.prog 47 #[.agg #[.string nm, .int .i64 fr, .int .i64 til, v3, v4], .int .i64 last] w fun e w' => Boo e ∧ Below w.heap.size w w' := by
  obtain ⟨a3, l3, c3, rfl, hl3, hc3⟩ := h3
  obtain ⟨a4, l4, c4, rfl, hl4, hc4⟩ := h4
  unfold maxLen at hl3 hl4
  have hn : ∀ (W : World), Calls Tryz.prog 82 #[.string nm] W fun e w' => Boo e ∧ W = w' := fun W => Tryz.ref09Name W nm hnm
  have hc3' : Hid (∀ i, i < l3 → ∃ b off, a3 = some ⟨b, off, none⟩ ∧ b < B ∧ ∀ j, j < 6 → ∃ u, w0.cell? ⟨b, off + i * 6 + j, none⟩ = some u ∧ varP w0 B j u) := hc3
  have hc4' : Hid (∀ i, i < l4 → ∃ b off, a4 = some ⟨b, off, none⟩ ∧ b < B ∧ ∀ j, j < 1 → ∃ u, w0.cell? ⟨b, off + i * 1 + j, none⟩ = some u ∧ spansP w0 B u) := hc4
  clear hc3 hc4 hnm
  by_cases hl : l4 = l3
  · obtain rfl : l3 = l4 := hl.symm
    clear hl
    go_enter Tryz.func47, Tryz.ntmps47
    go_wp2_with
      (go_at_call 82
       refine (hn _).mono ?_
       rintro e w1 ⟨⟨r, rfl⟩, rfl⟩)
    all_goals first | (go_ret; exact ⟨⟨_, rfl⟩, (Below.refl _ _).alloc (Nat.le_refl _) _⟩) | skip
    go_loopw [5] (fun i wr => ∃ k : Nat, k ≤ l3 ∧ i = .int .i64 k ∧ Below w.heap.size w wr ∧ w.heap.size < wr.heap.size ∧ Hid (wr.cell? ⟨w.heap.size, 0, none⟩ = some (.string nm) ∧ wr.cell? ⟨w.heap.size, 1, none⟩ = some (.int .i64 fr) ∧ wr.cell? ⟨w.heap.size, 2, none⟩ = some (.int .i64 til) ∧ wr.cell? ⟨w.heap.size, 3, none⟩ = some (.slice a3 l3 c3) ∧ wr.cell? ⟨w.heap.size, 4, none⟩ = some (.slice a4 l3 c4))) (fun i _ => l3 - (intOf i).toNat)
    case atStart => exact ⟨0, Nat.zero_le _, rfl, (Below.refl _ _).alloc (Nat.le_refl _) _, by simp, by refine ⟨?_, ?_, ?_, ?_, ?_⟩ <;> simp⟩
    case round =>
      obtain ⟨k, hk, rfl, hbel, hsz, hfive⟩ := hrel
      have hfive' := hfive
      obtain ⟨f0, f1, f2, f3, f4⟩ := hfive'
      by_cases hlt : k < l3
      · obtain ⟨b, off, rfl, hb, hj⟩ := hc3' k hlt
        obtain ⟨_, q0, s0, rfl, hs0⟩ := hj 0 (by decide)
        obtain ⟨_, q1, y1, rfl⟩ := hj 1 (by decide)
        obtain ⟨_, q2, y2, rfl⟩ := hj 2 (by decide)
        obtain ⟨_, q3, s3, rfl, hs3⟩ := hj 3 (by decide)
        obtain ⟨_, q4, y4, rfl⟩ := hj 4 (by decide)
        obtain ⟨v5, q5, hv5⟩ := hj 5 (by decide)
        have hv5 : Sl w0 B 1 (fun _ => IsS) v5 := hv5
        obtain ⟨b6, off6, rfl, hb6, hj6⟩ := hc4' k hlt
        obtain ⟨v6, q6, hv6⟩ := hj6 0 (by decide)
        have hAr : Ag w0 B wr := hA.below hbel
        have e0 : wr.cell? ⟨b, off + k * 6, none⟩ = some (.string s0) := (hAr.cell hb).trans q0
        have e1 : wr.cell? ⟨b, off + k * 6 + 1, none⟩ = some (.int .u8 y1) := (hAr.cell hb).trans q1
        have e2 : wr.cell? ⟨b, off + k * 6 + 2, none⟩ = some (.int .i64 y2) := (hAr.cell hb).trans q2
        have e3 : wr.cell? ⟨b, off + k * 6 + 3, none⟩ = some (.string s3) := (hAr.cell hb).trans q3
        have e4 : wr.cell? ⟨b, off + k * 6 + 4, none⟩ = some (.int .i64 y4) := (hAr.cell hb).trans q4
        have e5 : wr.cell? ⟨b, off + k * 6 + 5, none⟩ = some v5 := (hAr.cell hb).trans q5
        have e6 : wr.cell? ⟨b6, off6 + k, none⟩ = some v6 := (hAr.cell hb6).trans (by simpa using q6)
        have hvar : Hid (∀ W, Ag w0 B W → Calls Tryz.prog 83 #[.agg #[.string s0, .int .u8 y1, .int .i64 y2, .string s3, .int .i64 y4, v5]] W fun e w' => Boo e ∧ Below W.heap.size W w') := fun W h => Tryz.ref09RightVar w0 B W h s0 s3 hs0 hs3 y1 y2 y4 v5 hv5
        have hspan : Hid (∀ W, Ag w0 B W → Calls Tryz.prog 84 #[v6] W fun e w' => Boo e ∧ Below W.heap.size W w') := fun W h => Tryz.ref07Right w0 B W h v6 hv6
        obtain ⟨a5, l5, c5, rfl, _, _⟩ := hv5
        obtain ⟨a6, l6, c6, rfl, hl6, hc6⟩ := hv6
        unfold maxLen at hl6
        have hc6' : Hid (∀ i, i < l6 → ∃ b off, a6 = some ⟨b, off, none⟩ ∧ b < B ∧ ∀ j, j < 3 → ∃ u, w0.cell? ⟨b, off + i * 3 + j, none⟩ = some u ∧ spanP w0 B j u) := hc6
        clear hj hj6 q0 q1 q2 q3 q4 q5 q6 hc6 hs0 hs3
        go_upto_region 9 with
          (first
            | (go_at_call 83
               refine (hvar _ hAr).mono ?_
               rintro e w1 ⟨⟨r1, rfl⟩, hb1⟩)
            | (go_at_call 84
               refine (hspan _ (hAr.below hb1)).mono ?_
               rintro e w2 ⟨⟨r2, rfl⟩, hb2⟩))
        all_goals first
          | (go_ret; exact ⟨⟨_, rfl⟩, hbel.trans (hb1.mono hbel.size)⟩)
          | (go_ret; exact ⟨⟨_, rfl⟩, hbel.trans ((hb1.trans (hb2.mono hb1.size)).mono hbel.size)⟩)
          | skip
        have hb12 : Below wr.heap.size wr w2 := hb1.trans (hb2.mono hb1.size)
        have hA2 : Ag w0 B w2 := hAr.below hb12
        have hfive2 := five hb12 hsz f0 f1 f2 f3 f4
        obtain ⟨p0, p1, p2, p3, p4⟩ := five hb12 hsz f0 f1 f2 f3 f4
        have hfive2 : Hid _ := hfive2
        clear f0 f1 f2 f3 f4 hfive e0 e1 e2 e3 e4 e5 e6
        go_cut [91] (fun s wx => Bv s ∧ Below w2.heap.size w2 wx)
        case first =>
          by_cases h0 : 0 < l6
          · obtain ⟨b7, off7, rfl, hb7, hj7⟩ := hc6' 0 h0
            obtain ⟨_, z0, x0, rfl⟩ := hj7 0 (by decide)
            have m0 : w2.cell? ⟨b7, off7, none⟩ = some (.int .i64 x0) := (hA2.cell hb7).trans (by simpa using z0)
            obtain ⟨b8, off8, he, hb8, hj8⟩ := hc6' (l6 - 1) (by omega)
            obtain ⟨rfl, rfl⟩ : b7 = b8 ∧ off7 = off8 := by simpa using he
            obtain ⟨_, z1, x1, rfl⟩ := hj8 1 (by decide)
            have m1 : w2.cell? ⟨b7, off7 + (l6 - 1) * 3 + 1, none⟩ = some (.int .i64 x1) := (hA2.cell hb7).trans z1
            clear hj7 hj8 z0 z1 he
            by_cases hd : x0 < fr
            · have hd' : decide (x0 < fr) = true := by simpa using hd
              go_quiet (fail)
              go_wp2
              go_meet; exact ⟨⟨_, rfl⟩, below_drewN (Below.refl _ _) _⟩
            · have hd' : decide (x0 < fr) = false := by simpa using hd
              have hi : ((l6 : Int) - 1).toNat = l6 - 1 := by omega
              go_quiet (fail)
              go_wp2
              go_meet; exact ⟨⟨_, rfl⟩, below_drewN (Below.refl _ _) _⟩
          · have hd' : decide ((0 : Int) < l6) = false := by simpa using h0
            go_quiet (fail)
            go_wp2
            go_meet; exact ⟨⟨_, rfl⟩, below_drewN (Below.refl _ _) _⟩
        case rest =>
          obtain ⟨⟨r, rfl⟩, hb3⟩ := hcut
          have hbc : Below wr.heap.size wr wc := hb12.trans (hb3.mono hb12.size)
          have hw3 : Below w.heap.size w wc := hbel.trans (hbc.mono hbel.size)
          have hsz3 : w.heap.size < wc.heap.size := Nat.lt_of_lt_of_le hsz hbc.size
          have hfive3 := five hb3 (Nat.lt_of_lt_of_le hsz hb12.size) p0 p1 p2 p3 p4
          have hfive3 : Hid _ := hfive3
          clear p0 p1 p2 p3 p4
          go_wp2
          all_goals first
            | (go_roundw
               case rel => exact ⟨k + 1, hlt, by go_num, hw3, hsz3, hfive3⟩
               case measure => simp [intOf]; omega)
            | (go_ret; exact ⟨⟨_, rfl⟩, hw3⟩)
      · go_wp2
        all_goals (go_ret; exact ⟨⟨_, rfl⟩, hbel⟩)
  · have hl' : ((l4 : Int) == l3) = false := by rw [beq_eq_false_iff_ne]; omega
    have hl'' : ((l4 : Int) != l3) = true := by rw [bne_iff_ne]; omega
    go_enter Tryz.func47, Tryz.ntmps47
    go_wp2_with
      (go_at_call 82
       refine (hn _).mono ?_
       rintro e w1 ⟨⟨r, rfl⟩, rfl⟩)
    all_goals (go_ret; exact ⟨⟨_, rfl⟩, (Below.refl _ _).alloc (Nat.le_refl _) _⟩)
end Go.Proofs
namespace Go.Proofs
open Go Go.RowKit U
namespace U
theorem three {w w' : World} {B b : Nat} (hb : Below B w w') (hlt : b < B) {c0 c1 c2 : Value} (h0 : w.cell? ⟨b, 0, none⟩ = some c0) (h1 : w.cell? ⟨b, 1, none⟩ = some c1) (h2 : w.cell? ⟨b, 2, none⟩ = some c2) :
    w'.cell? ⟨b, 0, none⟩ = some c0 ∧ w'.cell? ⟨b, 1, none⟩ = some c1 ∧ w'.cell? ⟨b, 2, none⟩ = some c2 :=
  ⟨(hb.cell (p := ⟨b, 0, none⟩) hlt).trans h0, (hb.cell (p := ⟨b, 1, none⟩) hlt).trans h1, (hb.cell (p := ⟨b, 2, none⟩) hlt).trans h2⟩
end U
set_option maxRecDepth 100000 in
set_option maxHeartbeats 16000000 in
theorem Tryz.ref09Right (w0 : World) (B : Nat) (w : World) (hA : Ag w0 B w) (v u : Value) (hv : Sl w0 B 5 (placeP w0 B) v) (hu : Sl w0 B 3 (pointP w0 B) u) :
    Calls Tryz.prog 20 #[v, u] w fun e w' => Boo e ∧ Below w.heap.size w w' := by
  obtain ⟨ao, len, cap, rfl, hlen, hc⟩ := hv
  obtain ⟨ap, lp, cp, rfl, hlp, hcp⟩ := hu
  unfold maxLen at hlen hlp
  have hc' : Hid (∀ i, i < len → ∃ b off, ao = some ⟨b, off, none⟩ ∧ b < B ∧ ∀ j, j < 5 → ∃ u, w0.cell? ⟨b, off + i * 5 + j, none⟩ = some u ∧ placeP w0 B j u) := hc
  have hcp' : Hid (∀ i, i < lp → ∃ b off, ap = some ⟨b, off, none⟩ ∧ b < B ∧ ∀ j, j < 3 → ∃ u, w0.cell? ⟨b, off + i * 3 + j, none⟩ = some u ∧ pointP w0 B j u) := hcp
  clear hc hcp
  go_enter Tryz.func20, Tryz.ntmps20
  go_wp2
  go_loopw [5, 6] (fun last i wr => ∃ (k : Nat) (n : Int), k ≤ len ∧ i = .int .i64 k ∧ last = .int .i64 n ∧ Below w.heap.size w wr) (fun _ i _ => len - (intOf i).toNat)
  case atStart => exact ⟨0, _, Nat.zero_le _, rfl, rfl, Below.refl _ _⟩
  case round =>
    obtain ⟨k, n, hk, rfl, rfl, hbel⟩ := hrel
    by_cases hlt : k < len
    · obtain ⟨b, off, rfl, hb, hj⟩ := hc' k hlt
      obtain ⟨_, q0, s0, rfl, hs0⟩ := hj 0 (by decide)
      obtain ⟨_, q1, y1, rfl⟩ := hj 1 (by decide)
      obtain ⟨_, q2, y2, rfl⟩ := hj 2 (by decide)
      obtain ⟨v3, q3, hv3⟩ := hj 3 (by decide)
      obtain ⟨v4, q4, hv4⟩ := hj 4 (by decide)
      have hv3 : Sl w0 B 6 (varP w0 B) v3 := hv3
      have hv4 : Sl w0 B 1 (fun _ => spansP w0 B) v4 := hv4
      have hAr : Ag w0 B wr := hA.below hbel
      have e0 : wr.cell? ⟨b, off + k * 5, none⟩ = some (.string s0) := (hAr.cell hb).trans q0
      have e1 : wr.cell? ⟨b, off + k * 5 + 1, none⟩ = some (.int .i64 y1) := (hAr.cell hb).trans q1
      have e2 : wr.cell? ⟨b, off + k * 5 + 2, none⟩ = some (.int .i64 y2) := (hAr.cell hb).trans q2
      have e3 : wr.cell? ⟨b, off + k * 5 + 3, none⟩ = some v3 := (hAr.cell hb).trans q3
      have e4 : wr.cell? ⟨b, off + k * 5 + 4, none⟩ = some v4 := (hAr.cell hb).trans q4
      have hplace : Hid (∀ last, Calls Tryz.prog 47 #[.agg #[.string s0, .int .i64 y1, .int .i64 y2, v3, v4], .int .i64 last] wr fun e w' => Boo e ∧ Below wr.heap.size wr w') := fun last => Tryz.ref09Place w0 B wr hAr s0 hs0 y1 y2 last v3 v4 hv3 hv4
      obtain ⟨a3, l3, c3, rfl, _, _⟩ := hv3
      obtain ⟨a4, l4, c4, rfl, _, _⟩ := hv4
      clear hj q0 q1 q2 q3 q4 hs0
      go_wp2_with
        (go_at_call 47
         refine (hplace _).mono ?_
         rintro e w1 ⟨⟨r1, rfl⟩, hb1⟩
         have m2 : w1.cell? ⟨b, off + k * 5 + 2, none⟩ = some (.int .i64 y2) := (hb1.cell (p := ⟨b, off + k * 5 + 2, none⟩) (Nat.lt_of_lt_of_le hb hAr.size)).trans e2
         have hw1 : Below w.heap.size w w1 := hbel.trans (hb1.mono hbel.size))
      all_goals first
        | (go_roundw
           case rel => exact ⟨k + 1, _, hlt, by go_num, rfl, hw1⟩
           case measure => simp [intOf]; omega)
        | (go_ret; exact ⟨⟨_, rfl⟩, hw1⟩)
    · go_wp2
      go_loopw [7] (fun i wr => ∃ k : Nat, k ≤ lp ∧ i = .int .i64 k ∧ Below w.heap.size w wr) (fun i _ => lp - (intOf i).toNat)
      case atStart => exact ⟨0, Nat.zero_le _, rfl, hbel⟩
      case round =>
        clear hk hlt hbel
        obtain ⟨k2, hk2, rfl, hbel⟩ := hrel
        obtain ⟨W2, rfl⟩ : ∃ W, W = wr := ⟨_, rfl⟩
        by_cases hlt : k2 < lp
        · obtain ⟨b, off, rfl, hb, hj⟩ := hcp' k2 hlt
          obtain ⟨_, q0, f, rfl⟩ := hj 0 (by decide)
          obtain ⟨_, q1, y1, rfl⟩ := hj 1 (by decide)
          obtain ⟨v2, q2, hv2⟩ := hj 2 (by decide)
          have hv2 : Sl w0 B 1 (fun _ => IsI) v2 := hv2
          obtain ⟨a2, l2, c2, rfl, hl2, hc2⟩ := hv2
          unfold maxLen at hl2
          have hc2' : Hid (∀ i, i < l2 → ∃ b off, a2 = some ⟨b, off, none⟩ ∧ b < B ∧ ∀ j, j < 1 → ∃ u, w0.cell? ⟨b, off + i * 1 + j, none⟩ = some u ∧ IsI u) := hc2
          have hAr : Ag w0 B W2 := hA.below hbel
          have e0 : W2.cell? ⟨b, off + k2 * 3, none⟩ = some (.int .i64 f) := (hAr.cell hb).trans q0
          have e1 : W2.cell? ⟨b, off + k2 * 3 + 1, none⟩ = some (.int .i64 y1) := (hAr.cell hb).trans q1
          have e2 : W2.cell? ⟨b, off + k2 * 3 + 2, none⟩ = some (.slice a2 l2 c2) := (hAr.cell hb).trans q2
          clear hj q0 q1 q2 hc2
          by_cases hf : 0 ≤ f ∧ f < len
          · obtain ⟨kf, rfl⟩ : ∃ kf : Nat, f = kf := ⟨f.toNat, by omega⟩
            have hkf : kf < len := by omega
            clear hf
            obtain ⟨bq, offq, rfl, hbq, hjq⟩ := hc' kf hkf
            obtain ⟨v3, q3, hv3⟩ := hjq 3 (by decide)
            have hv3 : Sl w0 B 6 (varP w0 B) v3 := hv3
            obtain ⟨a3, l3, c3, rfl, hl3, _⟩ := hv3
            unfold maxLen at hl3
            have q3' : Hid (w0.cell? ⟨bq, offq + kf * 5 + 3, none⟩ = some (.slice a3 l3 c3)) := q3
            clear hjq q3
            by_cases hy : 1 ≤ y1 ∧ y1 ≤ 1048576
            · obtain ⟨hy1, hy2⟩ := hy
              go_wp2
              go_loopw [9, 10] (fun most i wx => ∃ (k : Nat) (n : Int), k ≤ l2 ∧ i = .int .i64 k ∧ most = .int .i64 n ∧ Below w.heap.size w wx ∧ W2.heap.size < wx.heap.size ∧ Hid (wx.cell? ⟨W2.heap.size, 0, none⟩ = some (.int .i64 kf) ∧ wx.cell? ⟨W2.heap.size, 1, none⟩ = some (.int .i64 y1) ∧ wx.cell? ⟨W2.heap.size, 2, none⟩ = some (.slice a2 l2 c2))) (fun _ i _ => l2 - (intOf i).toNat)
              case atStart => exact ⟨0, _, Nat.zero_le _, rfl, rfl, hbel.alloc hbel.size _, by simp, by refine ⟨?_, ?_, ?_⟩ <;> simp⟩
              case round =>
                clear e0 e1 e2
                obtain ⟨k3, n3, hk3, rfl, rfl, hbel3, hsz3, hthree⟩ := hrel
                have hthree' := hthree
                obtain ⟨f0, f1, f2⟩ := hthree'
                have hA3 : Ag w0 B wr := hA.below hbel3
                by_cases hlt3 : k3 < l2
                · obtain ⟨b9, off9, rfl, hb9, hj9⟩ := hc2' k3 hlt3
                  obtain ⟨_, z0, x, rfl⟩ := hj9 0 (by decide)
                  have m0 : wr.cell? ⟨b9, off9 + k3, none⟩ = some (.int .i64 x) := (hA3.cell hb9).trans (by simpa using z0)
                  have m3 : wr.cell? ⟨bq, offq + kf * 5 + 3, none⟩ = some (.slice a3 l3 c3) := (hA3.cell hbq).trans q3'
                  clear hj9 z0
                  go_upto_region 18 with fail
                  by_cases hd : x ≤ n3
                  · have hd' : decide (x ≤ n3) = true := by simpa using hd
                    go_quiet (fail)
                    go_wp2
                    go_ret; exact ⟨⟨_, rfl⟩, below_drewN hbel3 _⟩
                  · have hd' : decide (x ≤ n3) = false := by simpa using hd
                    go_quiet (fail)
                    go_wp2
                    all_goals first
                      | (go_roundw
                         case rel => exact ⟨k3 + 1, _, hlt3, by go_num, rfl, below_drewN hbel3 _, hsz3, hthree⟩
                         case measure => simp [intOf]; omega)
                      | (go_ret; exact ⟨⟨_, rfl⟩, below_drewN hbel3 _⟩)
                · go_wp2
                  all_goals (go_roundw
                             case rel => exact ⟨k2 + 1, hlt, by go_num, hbel3⟩
                             case measure => simp [intOf]; omega)
            · rcases (show y1 < 1 ∨ (1 ≤ y1 ∧ 1048576 < y1) by omega) with h | ⟨h, h'⟩
              · clear hy
                go_wp2
                all_goals (go_ret; exact ⟨⟨_, rfl⟩, hbel.alloc hbel.size _⟩)
              · clear hy
                go_wp2
                all_goals (go_ret; exact ⟨⟨_, rfl⟩, hbel.alloc hbel.size _⟩)
          · rcases (show f < 0 ∨ (0 ≤ f ∧ (len : Int) ≤ f) by omega) with h | ⟨h, h'⟩
            · clear hf
              go_wp2
              all_goals (go_ret; exact ⟨⟨_, rfl⟩, hbel.alloc hbel.size _⟩)
            · clear hf
              go_wp2
              all_goals (go_ret; exact ⟨⟨_, rfl⟩, hbel.alloc hbel.size _⟩)
        · go_wp2
          all_goals (go_ret; exact ⟨⟨_, rfl⟩, hbel⟩)
end Go.Proofs
namespace Go.Proofs
open Go Go.RowKit U
set_option maxRecDepth 100000 in
set_option maxHeartbeats 8000000 in
theorem Tryz.rightPoint (w0 : World) (B : Nat) (w : World) (hA : Ag w0 B w) (f ln : Int) (v2 va : Value) (h2 : Sl w0 B 1 (fun _ => IsI) v2) (hv : Sl w0 B 5 (placeP w0 B) va) :
    Calls Tryz.prog 39 #[.agg #[.int .i64 f, .int .i64 ln, v2], va] w fun e w' => Boo e ∧ Below w.heap.size w w' := by
  obtain ⟨ao, len, cap, rfl, hlen, hc⟩ := hv
  obtain ⟨ap, lp, cp, rfl, hlp, hcp⟩ := h2
  unfold maxLen at hlen hlp
  have hc' : Hid (∀ i, i < len → ∃ b off, ao = some ⟨b, off, none⟩ ∧ b < B ∧ ∀ j, j < 5 → ∃ u, w0.cell? ⟨b, off + i * 5 + j, none⟩ = some u ∧ placeP w0 B j u) := hc
  have hcp' : Hid (∀ i, i < lp → ∃ b off, ap = some ⟨b, off, none⟩ ∧ b < B ∧ ∀ j, j < 1 → ∃ u, w0.cell? ⟨b, off + i * 1 + j, none⟩ = some u ∧ IsI u) := hcp
  clear hc hcp
  by_cases hf : 0 ≤ f ∧ f < len
  · obtain ⟨kf, rfl⟩ : ∃ kf : Nat, f = kf := ⟨f.toNat, by omega⟩
    have hkf : kf < len := by omega
    clear hf
    obtain ⟨b, off, rfl, hb, hj⟩ := hc' kf hkf
    obtain ⟨v3, q3, hv3⟩ := hj 3 (by decide)
    have hv3 : Sl w0 B 6 (varP w0 B) v3 := hv3
    obtain ⟨a3, l3, c3, rfl, hl3, _⟩ := hv3
    unfold maxLen at hl3
    have e3 : ∀ o, (w.alloc o).cell? ⟨b, off + kf * 5 + 3, none⟩ = some (.slice a3 l3 c3) := fun o => ((hA.alloc o).cell hb).trans q3
    clear hj q3 hc'
    go_enter Tryz.func39, Tryz.ntmps39
    go_wp2
    all_goals first | (go_ret; exact ⟨⟨_, rfl⟩, (Below.refl _ _).alloc (Nat.le_refl _) _⟩) | skip
    go_loop [5, 31] (fun last i => ∃ (k : Nat) (n : Int), k ≤ lp ∧ i = .int .i64 k ∧ last = .int .i64 n) (fun _ i => lp - (intOf i).toNat)
    case atStart => exact ⟨0, _, Nat.zero_le _, rfl, rfl⟩
    case round =>
      obtain ⟨k, n, hk, rfl, rfl⟩ := hrel
      by_cases hlt : k < lp
      · obtain ⟨bp, offp, rfl, hbp, hjp⟩ := hcp' k hlt
        obtain ⟨_, z0, x, rfl⟩ := hjp 0 (by decide)
        have m0 : ∀ o, (w.alloc o).cell? ⟨bp, offp + k, none⟩ = some (.int .i64 x) := fun o => ((hA.alloc o).cell hbp).trans (by simpa using z0)
        clear hjp z0
        go_wp2
        all_goals first
          | (go_round
             case rel => first | exact ⟨k + 1, _, hlt, by go_num, rfl⟩ | ((repeat apply Exists.intro); exact ⟨⟨k + 1, hlt, by go_num, _, rfl⟩, rfl, rfl, rfl, rfl⟩)
             case measure => simp [intOf]; omega)
          | (go_ret; exact ⟨⟨_, rfl⟩, (Below.refl _ _).alloc (Nat.le_refl _) _⟩)
      · go_wp2
        all_goals (go_ret; exact ⟨⟨_, rfl⟩, (Below.refl _ _).alloc (Nat.le_refl _) _⟩)
  · rcases (show f < 0 ∨ (0 ≤ f ∧ (len : Int) ≤ f) by omega) with h | ⟨h, h'⟩
    · clear hf
      go_enter Tryz.func39, Tryz.ntmps39
      go_wp2
      all_goals (go_ret; exact ⟨⟨_, rfl⟩, (Below.refl _ _).alloc (Nat.le_refl _) _⟩)
    · clear hf
      go_enter Tryz.func39, Tryz.ntmps39
      go_wp2
      all_goals (go_ret; exact ⟨⟨_, rfl⟩, (Below.refl _ _).alloc (Nat.le_refl _) _⟩)
end Go.Proofs
