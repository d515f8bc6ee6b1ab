/- maps.Clone and the sorted keys of a set at this translation, as the shadow machine knows them. No condition. -/
import Derived.Test.YtlmhfmlbkaabcaaGreatDoorA4
import Derived.Test.YtlmhfmlbkaabcaaGreatDoorS
import Derived.KernelRfl
set_option linter.all false
set_option linter.unusedVariables false
set_option linter.unusedSimpArgs false
namespace Go.Proofs
open Go Go.Ab Go.RowKit Go.Maps Go.Sort Go.Shelf
noncomputable section

theorem Tryz.clone_ok : FSound Tryz.prog (fun _ => none) (cloneK 162) := by
  intro fid args h r hb hne g w vals hr R hG
  unfold cloneK at hb
  split at hb
  · rename_i id hf hroom
    have hf' := (beq_iff _ _).1 hf
    subst hf'
    split at hb
    · rename_i es hid
      subst hb
      obtain ⟨u, rfl, hu⟩ := relL_one hr
      cases hu with
      | map _ b o c hφ =>
        obtain ⟨es', hp, ents, clock, h2, h3, h4, h5⟩ := R.obj _ _ _ _ _ hid hφ
        refine ⟨⟨_, Tryz.func162, rfl⟩, ?_⟩
        have hc := AnyW.maps_Clone Tryz.cloneA b ents clock w h2
        refine Calls.mono (show Calls Tryz.prog 162 #[.map (some b)] w _ from hc) fun e w' hh => ?_
        obtain ⟨rfl, rfl⟩ := hh
        have hfr : ∀ b', b' < w.heap.size → (w.alloc (.map ents clock)).heap[b']? = w.heap[b']? := fun b' hb => Go.RowKit.Below.heap_alloc w _ b' hb
        have hle : g.le (g.add h.next (w.heap.size, 0, 0)) := Gh.le_add (R.fresh _ (Nat.le_refl _)).1
        exact ⟨g.add h.next (w.heap.size, 0, 0), _, rfl, Ext.alloc R (by simp) hfr rfl rfl rfl,
          R.alloc hroom hfr ⟨es', hp, ents, clock, World.alloc_heap_new w _, h3.mono hle, h4.mono hle, h5⟩, .map _ _ 0 0 (by simp [Gh.add])⟩
    · exact absurd hb.symm hne
  · exact absurd hb.symm hne

theorem Tryz.sortsA (m : Nat) : AnyZI.SortsIn Tryz.prog Tryz.sortedA_ren Fence.wide m :=
  ⟨fun blk off cap ss W hH hblk hsz => callsIn_wide.2 (AnyM.slices_Sort_int Tryz.sortA blk off cap ss W hH hblk hsz),
   fun p cap W => callsIn_wide.2 (AnyM.slices_Sort_int_none Tryz.sortA p cap W)⟩

set_option maxHeartbeats 1000000 in
theorem Tryz.row {H : Type} (b nn : Nat) (D0 : DataW H) (R : Value → Option (DataW H × List MemPlace)) (w : World) (hown : w.ownsMap Tryz.prog 3 R b nn D0) (hmax : Maps.size D0 ≤ maxLen) (hbytes : Maps.size D0 * 8 ≤ 140737488355328) :
    Calls Tryz.prog 166 #[.map (some b)] w fun e w' => ∃ (v : Value) (ss : List Int), e = .returned v ∧ ss.Perm (intKeys D0) ∧
      w'.ownsRow w.heap.size 3 1 v ss.length ((ss.mergeSort (fun x y => decide (x ≤ y))).map encZ) ∧ (v = .slice none 0 0 ↔ ss = []) ∧ Below w.heap.size w w' := by
  refine (callsIn_wide (n := 6)).1 ?_
  have hbl := hown.lt
  have hseq : SeqGives Fence.wide 2 Tryz.prog 313 #[.pointer (some ⟨w.heap.size, 0, none⟩)] encZ (fun ss => ss.Perm (intKeys D0)) (Maps.size D0) (w.alloc (.cells #[.map (some b)] 313)) :=
    AnyZI.keys_gives (ρ := Tryz.keysA_ren) { Tryz.keysA with } Fence.wide _ trivial rfl (by omega) w.heap.size b nn D0 _ (by simp) (by simp) (by
      obtain ⟨es, clock, hb, Ft, hs, hD⟩ := hown
      exact ⟨es, clock, (Below.heap_alloc _ _ b hbl).trans hb, Ft, hs, hD⟩)
  have cK : ∀ mb W, CallsIn Fence.wide 5 Tryz.prog 237 #[.map mb] W fun e w' => e = .returned (.func (.func 313) #[] #[.pointer (some ⟨W.heap.size, 0, none⟩)]) ∧ w' = W.alloc (.cells #[.map mb] 313) := fun mb W => AnyZI.keys_in Tryz.keysA Fence.wide 5 trivial rfl mb W
  have cS := AnyZI.sorted_in Tryz.sortedA Fence.wide 5 trivial trivial trivial trivial rfl (by omega) (Tryz.sortsA _) (enters_of Tryz.func156 (by kernel_rfl) rfl) 313 #[.pointer (some ⟨w.heap.size, 0, none⟩)] trivial (enters_of Tryz.func313 (by kernel_rfl) rfl) _ _ hmax hbytes _ hseq
  change CallsIn _ _ Tryz.prog 236 _ _ _ at cS
  have hfK : Fence.wide.fn 237 := trivial
  have hfS : Fence.wide.fn 236 := trivial
  refine callsIn_of_wp Tryz.func166 rfl trivial ?_ rfl
  simp only [Tryz.ntmps166, List.size_toArray, List.length_cons, List.length_nil, Nat.reduceAdd, Nat.reduceSub, Array.replicate_succ, Array.replicate_zero, List.push_toArray, List.append_toArray, List.nil_append, List.cons_append]
  gi_wp2_with (first
    | (gi_at_call 237; refine (cK _ _).mono ?_; rintro e w' ⟨rfl, rfl⟩)
    | (gi_at_call 236; refine cS.mono ?_; rintro e w' ⟨v, ss, rfl, hS, hrow, hnil, hb⟩))
  go_ret
  exact ⟨v, ss, rfl, hS, ownsRow_base_a hrow (by simp), hnil, ((Below.refl _ w).alloc (Nat.le_refl _) _).trans (hb.mono (by simp))⟩
end
end Go.Proofs
namespace Go.Ab
open Go
noncomputable section
theorem insK_perm (n : Nat) : ∀ l, (insK n l).Perm (n :: l)
  | [] => .refl _
  | m :: r => by
    unfold insK
    split
    · exact .refl _
    · exact ((insK_perm n r).cons m).trans (.swap n m r)
theorem insK_sorted (n : Nat) : ∀ {l : List Nat}, l.Pairwise (· ≤ ·) → (insK n l).Pairwise (· ≤ ·)
  | [], _ => by simp [insK]
  | m :: r, h => by
    rw [List.pairwise_cons] at h
    unfold insK
    split
    · rename_i hb
      have hb := (ble_iff _ _).1 hb
      refine List.pairwise_cons.2 ⟨fun x hx => ?_, List.pairwise_cons.2 h⟩
      rcases List.mem_cons.1 hx with rfl | hx
      · exact hb
      · exact Nat.le_trans hb (h.1 x hx)
    · rename_i hb
      have hb : m ≤ n := by
        rcases Nat.le_total m n with h1 | h1
        · exact h1
        · rw [(ble_iff _ _).2 h1] at hb; cases hb
      refine List.pairwise_cons.2 ⟨fun x hx => ?_, insK_sorted n h.2⟩
      rcases List.mem_cons.1 ((insK_perm n r).subset hx) with rfl | hx
      · exact hb
      · exact h.1 x hx
theorem smallK_ok {a : AV} {n : Nat} (h : smallK a = some n) : a = .int .i64 (n : Int) ∧ n ≤ 1000000 := by
  unfold smallK at h
  split at h
  · split at h
    · rename_i m hb
      cases h
      exact ⟨rfl, (ble_iff _ _).1 hb⟩
    · cases h
  · cases h
theorem keysK_ok : ∀ {es : List (AV × AV)} {l : List Nat}, keysK es = some l → l.Pairwise (· ≤ ·) ∧ (es.map (·.1)).Perm (l.map fun n : Nat => AV.int .i64 (Int.ofNat n)) ∧ ∀ p ∈ es, ∃ n : Nat, n ≤ 1000000 ∧ p.1 = .int .i64 (n : Int)
  | [], l, h => by cases h; exact ⟨.nil, .refl _, by simp⟩
  | p :: r, l, h => by
    unfold keysK at h
    split at h
    · rename_i n l' h1 h2 h3
      cases h
      obtain ⟨k1, k2, k3⟩ := keysK_ok h3
      obtain ⟨e, hn⟩ := smallK_ok h1
      refine ⟨insK_sorted n k1, ?_, fun q hq => ?_⟩
      · rw [List.map_cons, e]
        exact (k2.cons _).trans ((insK_perm n l').map fun n : Nat => AV.int .i64 (Int.ofNat n)).symm
      · rcases List.mem_cons.1 hq with rfl | hq
        · exact ⟨n, hn, e⟩
        · exact k3 q hq
    · cases h

/-- A number's value. -/
def toV : AV → Value | .int k n => .int k n | _ => undef
theorem rel_toV {g : Gh} : ∀ {al : List AV} {vs : List Value}, RelL g al vs → (∀ a ∈ al, ∃ n : Nat, n ≤ 1000000 ∧ a = .int .i64 (n : Int)) → vs = al.map toV
  | _, _, .nil, _ => rfl
  | _, _, .cons a v al vs h t, hk => by
    obtain ⟨n, _, rfl⟩ := hk a (by simp)
    cases h
    rw [List.map_cons, rel_toV t (fun a ha => hk a (by simp [ha]))]
    rfl

theorem RS.below {g : Gh} {h : H} {w w' : World} (R : RS g h w) (hfr : ∀ b, b < w.heap.size → w'.heap[b]? = w.heap[b]?) : RS g h w' :=
  ⟨fun id ao b o c h1 h2 => (R.obj id ao b o c h1 h2).mono (.refl g) (hfr b (R.obj id ao b o c h1 h2).lt), R.disj, fun b i v hI => by
    obtain ⟨h1, h2⟩ := R.imm b i v hI
    exact ⟨(cell?_of_heap i (hfr b (lt_of_cell? h1))).trans h1, h2⟩, R.fresh, R.small⟩
end
end Go.Ab

namespace Go.Proofs
open Go Go.Ab Go.RowKit Go.Maps Go.Sort Go.Shelf Go.WideElems
noncomputable section
theorem Tryz.row_ok : FSound Tryz.prog (fun _ => none) (rowK 166) := by
  intro fid args h r hb hne g w vals hr R hG
  unfold rowK at hb
  split at hb
  · rename_i id hf hroom
    have hf' := (beq_iff _ _).1 hf
    subst hf'
    split at hb
    · rename_i es hid
      obtain ⟨u, rfl, hu⟩ := relL_one hr
      cases hu with
      | map _ b o c hφ =>
        obtain ⟨es', hp, ents, clock, h2, h3, h4, h5⟩ := R.obj _ _ _ _ _ hid hφ
        -- what the sorted keys are
        have main : ∀ l, intKB es = true → es.length ≤ 100000 → keysK es = some l → Calls Tryz.prog 166 #[.map (some b)] w fun e w' => ∃ v : Value, e = .returned v ∧ (l = [] → v = .slice none 0 0) ∧ w'.ownsRow w.heap.size 3 1 v l.length (l.map fun n : Nat => encZ (Int.ofNat n)) ∧ Below w.heap.size w w' := by
          intro l hk hlen hl
          obtain ⟨k1, k2, k3⟩ := keysK_ok hl
          have hperm : (es'.map (·.1)).Perm (es.map (·.1)) := by
            rcases hp with rfl | ⟨hp, _⟩
            · exact .refl _
            · exact hp.map _
          have hk' : ∀ a ∈ es'.map (·.1), ∃ n : Nat, n ≤ 1000000 ∧ a = .int .i64 (n : Int) := fun a ha => by
            obtain ⟨p, hp1, rfl⟩ := List.mem_map.1 (hperm.subset ha)
            exact k3 p hp1
          have hkeys := rel_toV h3 hk'
          have hu3 : Tryz.prog.underlying 3 = some (.int .i64) := by kernel_rfl
          have hread : ∀ x ∈ ents.toList, ∃ n : Nat, n ≤ 1000000 ∧ x.key = .int .i64 (n : Int) := fun x hx => by
            have : x.key ∈ ents.toList.map (·.key) := List.mem_map_of_mem hx
            rw [hkeys] at this
            obtain ⟨a, ha, e⟩ := List.mem_map.1 this
            obtain ⟨n, hn, rfl⟩ := hk' a ha
            exact ⟨n, hn, e.symm⟩
          have wf : ∀ n : Nat, n ≤ 1000000 → (Lit.int .i64 (n : Int)).wf = true := fun n hn => by
            simp [Lit.wf, IntKind.min, IntKind.max, IntKind.signed, IntKind.bits]
            omega
          have hkl : ∀ x ∈ ents.toList, ∃ n : Nat, x.key = .int .i64 (n : Int) ∧ keyOf Tryz.prog 3 x.key = some (.int .i64 (n : Int)) := fun x hx => by
            obtain ⟨n, hn, e⟩ := hread x hx
            exact ⟨n, e, by rw [e]; exact keyOf_int_mk hu3 (wf n hn)⟩
          let Rd : Value → Option (DataW Unit × List MemPlace) := fun _ => some (.nil, [])
          have hrd : ∀ x ∈ ents.toList, ∃ n : Nat, x.key = .int .i64 (n : Int) ∧ WideElems.rd Tryz.prog 3 Rd x = some (.int .i64 (n : Int), .nil) := fun x hx => by
            obtain ⟨n, e, hkk⟩ := hkl x hx
            exact ⟨n, e, by unfold WideElems.rd; rw [hkk]; rfl⟩
          have hsz : ents.size = es.length := by
            have h6 := h3.length
            have h7 := hperm.length_eq
            simp at h6 h7
            omega
          have hml : (100000 : Nat) ≤ maxLen := by decide
          have hFit : Fit Tryz.prog 3 Rd ents clock := by
            refine ⟨by omega, ⟨h5.1, h5.2, ?_⟩, fun x hx => ?_⟩
            · rw [hkeys]
              have hnd : (es'.map (·.1)).Nodup := hperm.nodup_iff.2 (intKB_ok hk).2
              refine List.pairwise_map.2 (hnd.imp_of_mem fun {a b} ha hb hab e => hab ?_)
              obtain ⟨n, _, rfl⟩ := hk' a ha
              obtain ⟨m, _, rfl⟩ := hk' b hb
              simp only [toV, Value.int.injEq, true_and] at e
              rw [e]
            · obtain ⟨n, _, hh⟩ := hrd x hx; exact ⟨_, hh⟩
          obtain ⟨D0, hD0⟩ : ∃ D0 : DataW Unit, DataW.map ((ents.toList.map (WideElems.rg Tryz.prog 3 Rd)).foldr DataW.insert []) = D0 := ⟨_, rfl⟩
          have hown : w.ownsMap Tryz.prog 3 Rd b ents.size D0 := ⟨ents, clock, h2, hFit, Nat.le_refl _, hD0.symm⟩
          have hsize : Maps.size D0 = ents.size := by
            rw [← hD0]
            show ((ents.toList.map (WideElems.rg Tryz.prog 3 Rd)).foldr DataW.insert []).length = _
            rw [(WideShapes.sorted_perm _).length_eq]; simp
          have hints : (intKeys D0).Perm (l.map Int.ofNat) := by
            rw [← hD0]
            show (((ents.toList.map (WideElems.rg Tryz.prog 3 Rd)).foldr DataW.insert []).map fun p => Go.intOf p.1).Perm _
            refine ((WideShapes.sorted_perm _).map _).trans ?_
            rw [List.map_map]
            let VN : Value → Int := fun | .int _ n => n | _ => 0
            have e1 : ents.toList.map ((fun p : Lit × DataW Unit => Go.intOf p.1) ∘ WideElems.rg Tryz.prog 3 Rd) = (ents.toList.map (·.key)).map VN := by
              rw [List.map_map]
              refine List.map_congr_left fun x hx => ?_
              obtain ⟨n, e, hh⟩ := hrd x hx
              have h8 : WideElems.rg Tryz.prog 3 Rd x = (.int .i64 (n : Int), .nil) := by unfold WideElems.rg; rw [hh]; rfl
              have h9 : VN x.key = (n : Int) := by rw [e]
              simp only [Function.comp_def]
              rw [h8, h9]
              rfl
            rw [e1, hkeys]
            have e2 : (l.map Int.ofNat) = ((l.map fun n : Nat => AV.int .i64 (Int.ofNat n)).map toV).map VN := by
              rw [List.map_map, List.map_map]; rfl
            rw [e2]
            exact ((hperm.trans k2).map toV).map VN
          have hsorted : (l.map Int.ofNat).mergeSort leI = l.map Int.ofNat := List.mergeSort_of_pairwise (List.pairwise_map.2 (k1.imp fun {a b} hab => by simpa [leI] using hab))
          refine (Tryz.row b ents.size D0 Rd w hown (by rw [hsize]; omega) (by rw [hsize]; omega)).mono fun e w' hh => ?_
          obtain ⟨v, ss, rfl, hss, hrow, hnil, hbel⟩ := hh
          have hp2 : ss.Perm (l.map Int.ofNat) := hss.trans hints
          have e3 : ss.mergeSort leI = l.map Int.ofNat := (mergeSort_of_perm_i hp2).trans hsorted
          have e4 : ss.length = l.length := by rw [hp2.length_eq, List.length_map]
          refine ⟨v, rfl, fun e => hnil.2 (List.eq_nil_of_length_eq_zero (by rw [e4, e]; rfl)), ?_, hbel⟩
          change w'.ownsRow w.heap.size 3 1 v ss.length ((ss.mergeSort leI).map encZ) at hrow
          rw [e3, e4, List.map_map] at hrow
          exact hrow
        refine ⟨⟨_, Tryz.func166, rfl⟩, ?_⟩
        split at hb
        · rename_i hk hlen hl
          subst hb
          refine (main [] hk ((ble_iff _ _).1 hlen) hl).mono fun e w' hh => ?_
          obtain ⟨v, rfl, hnil, _, hbel⟩ := hh
          rw [hnil rfl]
          exact ⟨g, _, rfl, ⟨.refl g, fun _ _ => rfl, Nat.le_refl _, fun b hb _ => hbel.block b hb, fun _ _ h => h, hbel.size, hbel.os, hbel.tape, hbel.output⟩, R.below hbel.block, .nilsl⟩
        · rename_i n l hk hlen hl
          subst hb
          refine (main (n :: l) hk ((ble_iff _ _).1 hlen) hl).mono fun e w' hh => ?_
          obtain ⟨v, rfl, _, hrow, hbel⟩ := hh
          obtain ⟨hl1, ⟨_, h0⟩ | ⟨gb, cap, cur, rfl, hge, hcur, hnc, hcm, hcs, htake⟩⟩ := hrow
          · cases h0
          · rw [Nat.mul_one] at hcs htake
            generalize hL : (n :: l) = L at *
            have hlt : gb < w'.heap.size := (Array.getElem?_eq_some_iff.1 hcur).1
            have hfn := R.fresh h.next (Nat.le_refl _)
            have hle : g.le (g.add h.next (gb, 0, cap)) := Gh.le_add hfn.1
            have hnoI : ∀ i, g.I gb i = none := fun i => by
              cases hI : g.I gb i with
              | none => rfl
              | some v => exact absurd (lt_of_cell? (R.imm gb i v hI).1) (by omega)
            have hnew : (g.add h.next (gb, 0, cap)).φ h.next = some (gb, 0, cap) := by simp [Gh.add]
            have hrelL : ∀ (g' : Gh) (L : List Nat), RelL g' (L.map fun n => AV.int .i64 (.ofNat n)) (L.map fun n : Nat => encZ (Int.ofNat n)) := fun g' L => by
              induction L with
              | nil => exact .nil
              | cons a L ih => exact .cons _ _ _ _ (.int _ _) ih
            have hobj : ObjAt (g.add h.next (gb, 0, cap)) w' gb 0 cap (.cells (L.map fun n => .int .i64 (.ofNat n))) := by
              refine ⟨fun x hx => ?_, cur, 3, 0, 0, L.map fun n : Nat => encZ (Int.ofNat n), hcur, by omega, .inl rfl, hrelL _ L, by simpa using hnc, fun i hi => ?_⟩
              · obtain ⟨m, _, rfl⟩ := List.mem_map.1 hx; rfl
              · rw [Nat.zero_add, ← htake]
                rw [List.length_map] at hi
                rw [List.getElem?_take_of_lt hi, Array.getElem?_toList]
            have hR : RS (g.add h.next (gb, 0, cap)) (h.new (.cells (L.map fun n => .int .i64 (.ofNat n)))) w' :=
              R.add hroom (fun b' hb _ => hbel.block b' hb) (fun ho => absurd (R.own_lt ho) (by omega)) hnoI hobj
            refine ⟨g.add h.next (gb, 0, cap), _, rfl, ⟨hle, fun id hid => ?_, Nat.le_succ _, fun b hb _ => hbel.block b hb, fun b hb ⟨j, a, o', c', h1, h2⟩ => ?_, hbel.size, hbel.os, hbel.tape, hbel.output⟩, hR, ?_⟩
            · have : id ≠ h.next := by omega
              simp [Gh.add, this]
            · by_cases hj : j = h.next
              · rw [hj, hnew] at h2; cases h2; omega
              · rw [H.get_new_other h j _ (Ne.symm hj)] at h1
                exact ⟨j, a, o', c', h1, by simpa [Gh.add, hj] using h2⟩
            · exact .sl 1 h.next 0 L.length none gb 0 cap cap gb 0 hnew (by simp) hnc (.inr ⟨rfl, rfl⟩)
        · exact absurd hb.symm hne
    · exact absurd hb.symm hne
  · exact absurd hb.symm hne
end
end Go.Proofs
namespace Go.Proofs
open Go Go.Ab
noncomputable section
theorem Tryz.noOwn : NoOwn Tryz.prog := by
  have h : (Tryz.prog.funcs.toList.all fun fn => !(fn.name == "runtime.NumGoroutine")) = true := by kernel_rfl
  intro fn hfn
  have := List.all_eq_true.1 h fn (Array.mem_toList_iff.2 hfn)
  simpa using this
theorem Tryz.mixed : Tryz.prog.follows .mixedOrders = true := by kernel_rfl
theorem Tryz.drawS : DrawSound Tryz.prog (fun _ => none) (fun S rd ops a h => draw (tiOf Tryz.prog) (fun _ => none) S rd ops a h) := draw_ok Tryz.mixed Tryz.noOwn
/-- The machine over the program. -/
def Tryz.mach (K : FuncId → List AV → H → RF) (n : Nat) : Self := self K (tiOf Tryz.prog) (fun f => Tryz.prog.funcs[f]?) (fun _ => none) (fun S rd ops a h => draw (tiOf Tryz.prog) (fun _ => none) S rd ops a h) n
theorem Tryz.mach_ok {K : FuncId → List AV → H → RF} (hK : FSound Tryz.prog (fun _ => none) K) (n : Nat) : Sound Tryz.prog (fun _ => none) (Tryz.mach K n) := self_ok Tryz.noOwn Tryz.drawS hK n
def Tryz.cOk (c : Cut) : Prop := c.good = true ∧ c.Ok Tryz.prog (fun _ => none)
theorem Tryz.use {c : Cut} (h : Tryz.cOk c) (ids : List Nat) : FSound Tryz.prog (fun _ => none) (cutF c ids) := cut_sound noG h.1 h.2 ids
def Tryz.xm (K : FuncId → List AV → H → RF) (n : Nat) : FuncId → List AV → H → Option (List (AV × H)) := xF (tiOf Tryz.prog) (fun f => Tryz.prog.funcs[f]?) (fun _ => none) (Tryz.mach K n)
theorem Tryz.cut {K : FuncId → List AV → H → RF} (hK : FSound Tryz.prog (fun _ => none) K) (c : Cut) (ids : List Nat) (h : c.proves ids (Tryz.mach K 3000).f = true) : Tryz.cOk c := c.ok_of (Tryz.mach_ok hK 3000).f h
theorem Tryz.cutX {K : FuncId → List AV → H → RF} (hK : FSound Tryz.prog (fun _ => none) K) (c : Cut) (ids : List Nat) (h : c.provesX ids (Tryz.xm K 3000) = true) : Tryz.cOk c := c.okX_of (Tryz.mach_ok hK 3000) h
end
end Go.Proofs
