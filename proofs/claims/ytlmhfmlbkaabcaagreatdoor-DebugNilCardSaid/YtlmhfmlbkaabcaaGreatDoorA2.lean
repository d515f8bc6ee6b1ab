/- The shadow machine, a part: append, maps, conversions, straight regions agree with the model. No condition. -/
import Derived.Test.YtlmhfmlbkaabcaaGreatDoorA1
import Derived.Laws.Append
import Derived.Laws.StructEq
import Derived.ChangeKeysEq
import Derived.Laws.BytesString
import Derived.Defers
import Derived.Orders
import Derived.OrdersIn
import Derived.RangeFuncLeaves
import Derived.RangeFuncOne
set_option linter.all false
set_option linter.unusedVariables false
set_option linter.unusedSimpArgs false
/-! append, len, copy. -/
namespace Go.Ab
open Go
noncomputable section

theorem RS.of_heap {g : Gh} {h : H} {w w' : World} (R : RS g h w) (e : w'.heap = w.heap) : RS g h w' :=
  ⟨fun id ao b o c h1 h2 => (R.obj id ao b o c h1 h2).mono (.refl g) (by rw [e]), R.disj,
    fun b i v hI => ⟨(cell?_of_heap (w := w) (w' := w') i (by rw [e])).trans (R.imm b i v hI).1, (R.imm b i v hI).2⟩, R.fresh, R.small⟩
theorem Ext.of_heap {g g' : Gh} {h h' : H} {w w1 w' : World} (x : Ext g h w1 g' h' w') (e : w1.heap = w.heap) (ho : w1.os = w.os) (ht : w1.tape = w.tape) (hu : w1.output = w.output) : Ext g h w g' h' w' :=
  ⟨x.le, x.old, x.next, fun b hb hn => (x.fr b (by rw [e]; exact hb) hn).trans (by rw [e]), fun b hb => x.own b (by rw [e]; exact hb), by rw [← e]; exact x.size, x.os.trans ho, x.tape.trans ht, x.output.trans hu⟩

/-- All cells of a source, and how many elements. -/
def srcA (h : H) (E : Nat) (x : AV) : Option (List AV × Nat) :=
  match x with
  | .nilsl => some ([], 0)
  | .esl => some ([], 0)
  | .sl E' id off len _ => (match Nat.beq E' E, h.get id with
    | true, some (.cells cs) => (match (cs.drop off).take (len * E) with
      | r => match Nat.beq r.length (len * E) with | true => some (r, len) | false => none)
    | _, _ => none)
  | .vsl E' l => (match Nat.beq E' E with | true => some (l.flatten, l.length) | false => none)
  | .str s => (match Nat.beq E 1 with | true => some (s.map (fun b => .int .u8 (b.toNat : Int)), s.length) | false => none)
  | _ => none

theorem relL_bytes (g : Gh) : ∀ s : List UInt8, RelL g (s.map (fun b => AV.int .u8 (b.toNat : Int))) (s.map (fun b => Value.int .u8 (b.toNat : Int)))
  | [] => .nil
  | _ :: r => .cons _ _ _ _ (.int _ _) (relL_bytes g r)

theorem src_take {P : Program} {g : Gh} {h : H} {w : World} (R : RS g h w) {E : Nat} {x : AV} {u : Value} (hx : Rel g x u) {cs : List AV} {n : Nat} (hb : srcA h E x = some (cs, n)) :
    ∃ vs, (∀ w', w'.heap = w.heap → (Builtin.lenOf u).run P w' = .ok n w' ∧ ∀ m, m ≤ n → (Builtin.firstCells E m u).run P w' = .ok (vs.take (m * E)).toArray w') ∧ RelL g cs vs ∧ (∀ y ∈ cs, y.sc = true) ∧ cs.length = n * E ∧
      (∀ a l c, u = .slice a l c → l = n) := by
  unfold srcA at hb
  split at hb
  · cases hb; cases hx
    exact ⟨[], fun w' _ => ⟨by simp [Builtin.lenOf], fun m _ => by simp [Builtin.firstCells]⟩, .nil, by simp, by simp, fun a l c e => by cases e; rfl⟩
  · cases hb; cases hx
    exact ⟨[], fun w' _ => ⟨by simp [Builtin.lenOf], fun m hm => by
      have : m = 0 := by omega
      subst this
      simp [Builtin.firstCells, loadCells, loadCellsFrom]⟩, .nil, by simp, by simp, fun a l c e => by cases e; rfl⟩
  · rename_i E' id off len cap
    split at hb
    · rename_i cs' hE hid
      have hE' := (beq_iff _ _).1 hE
      subst hE'
      simp only at hb
      split at hb <;> cases hb
      rename_i hl
      have hl' := (beq_iff _ _).1 hl
      cases hx with
      | sl _ _ _ _ _ b o c k b' o' hφ hk hlk ha =>
        have hc := R.obj _ _ _ _ _ hid hφ
        obtain ⟨vs, h4, h5, _⟩ := CellsAt.reads hc
        have hr := (h4.drop off).take (n * E')
        have hlen := hr.length
        rw [hl'] at hlen
        refine ⟨_, fun w' hw' => ⟨by simp [Builtin.lenOf], fun m hm => ?_⟩, hr, fun y hy => hc.sc y (List.mem_of_mem_drop (List.mem_of_mem_take hy)), hl', fun a l c e => by cases e; rfl⟩
        unfold Builtin.firstCells
        simp only
        rcases ha with ha | ⟨eb, eo⟩
        · have : n = 0 := by omega
          subst this
          have : m = 0 := by omega
          subst this
          simp [loadCells, loadCellsFrom]
        · rw [eb, eo]
          have := run_loadCells_list (P := P) w' ⟨b, o + off, none⟩ (((vs.drop off).take (n * E')).take (m * E')) (fun j v hj => by rw [addr_add, cell?_of_heap (w := w) (w' := w') _ (by rw [hw'])]; exact ((h5.drop off).take (n * E')).take (m * E') j v hj)
          rw [List.length_take, ← hlen, Nat.min_eq_left (Nat.mul_le_mul_right E' hm)] at this
          exact this
    · cases hb
  · rename_i E' l
    split at hb <;> cases hb
    rename_i hE
    have hE' := (beq_iff _ _).1 hE
    subst hE'
    cases hx with
    | vsl _ _ b o k vs hEl hs hr hI hk =>
      have hlen : l.flatten.length = l.length * E' := by
        clear hr hI hk hs hE
        induction l with
        | nil => simp
        | cons y r ih => simp only [List.flatten_cons, List.length_append, List.length_cons, Nat.succ_mul, ih (fun z hz => hEl z (by simp [hz])), hEl y (by simp)]; omega
      refine ⟨vs, fun w' hw' => ⟨by simp [Builtin.lenOf], fun m hm => ?_⟩, hr, hs, hlen, fun a l c e => by cases e; rfl⟩
      unfold Builtin.firstCells
      simp only
      have hrl := hr.length
      have hreads : Reads w b o vs := fun j v hj => (R.imm b (o + j) v (by rw [hI j (List.getElem?_eq_some_iff.1 hj).1, hj])).1
      have := run_loadCells_list (P := P) w' ⟨b, o, none⟩ (vs.take (m * E')) (fun j v hj => by
        rw [addr_add, cell?_of_heap (w := w) (w' := w') _ (by rw [hw'])]
        exact hreads.take (m * E') j v hj)
      rw [List.length_take, ← hrl, hlen, Nat.min_eq_left (Nat.mul_le_mul_right E' hm)] at this
      exact this
  · rename_i s
    split at hb <;> cases hb
    rename_i hE
    have hE' := (beq_iff _ _).1 hE
    subst hE'
    cases hx
    refine ⟨_, fun w' _ => ⟨by simp [Builtin.lenOf, ByteArray.size], fun m hm => ?_⟩, relL_bytes g s, fun y hy => by obtain ⟨b, _, rfl⟩ := List.mem_map.1 hy; rfl, by simp, fun a l c e => by cases e⟩
    unfold Builtin.firstCells
    simp only [Sem.run_pure]
    congr 1
    apply Array.ext'
    simp [ByteArray.data_extract, List.extract_eq_take_drop, List.map_take]
  · cases hb

theorem src_ok {P : Program} {g : Gh} {h : H} {w : World} (R : RS g h w) {E : Nat} {x : AV} {u : Value} (hx : Rel g x u) {cs : List AV} {n : Nat} (hb : srcA h E x = some (cs, n)) :
    ∃ vs, (∀ w', w'.heap = w.heap → (Builtin.lenOf u).run P w' = .ok n w' ∧ (Builtin.firstCells E n u).run P w' = .ok vs.toArray w') ∧ RelL g cs vs ∧ (∀ y ∈ cs, y.sc = true) ∧ cs.length = n * E ∧
      (∀ a l c, u = .slice a l c → l = n) := by
  obtain ⟨vs, h1, h2, h3, h4, h5⟩ := src_take (P := P) R hx hb
  refine ⟨vs, fun w' hw' => ⟨(h1 w' hw').1, ?_⟩, h2, h3, h4, h5⟩
  have := (h1 w' hw').2 n (Nat.le_refl _)
  rwa [List.take_of_length_le (by rw [← h2.length, h4]; exact Nat.le_refl _)] at this

/-- What is appended. -/
def newCells (T : TypeId → Option TI) (xT : Option TypeId) (el : TI) (h : H) (x : AV) : Option (List AV × Nat × Bool) :=
  match xT with
  | none => (match srcA h el.size x with | some (cs, n) => some (cs, n, false) | none => none)
  | some xT => match T xT with
    | none => none
    | some xi => match xi.d with
      | .int _ => (match natA x, el.zero with
        | some n, some z => (match allSc z.cells, Nat.beq z.cells.length el.size, Nat.ble n (2 ^ 47), Nat.ble (n * el.bytes) (2 ^ 47) with
          | true, true, true, true => some (repA n z.cells, n, true)
          | _, _, _, _ => none)
        | _, _ => none)
      | _ => (match srcA h el.size x with | some (cs, n) => some (cs, n, false) | none => none)

def growA (h : H) (E len n : Nat) (old new : List AV) : Option (AV × H) :=
  match h.room with
  | true => some (.sl E h.next 0 (len + n) none, h.new (.cells (old ++ new)))
  | false => none

def appendA (T : TypeId → Option TI) (ti : TI) (xT : Option TypeId) (s x : AV) (h : H) : Option (AV × H) :=
  match ti.d with
  | .slice elem => (match T elem with
    | none => none
    | some el => match el.zero, newCells T xT el h x with
      | some z, some (new, n, _) => (match Nat.beq z.cells.length el.size, allSc z.cells, Nat.beq el.size 0 with
        | true, true, false => (match n with
          | 0 => (match s with | .nilsl => some (s, h) | .esl => some (s, h) | .sl _ _ _ _ _ => some (s, h) | .vsl _ _ => some (s, h) | _ => none)
          | n + 1 => match s with
            | .nilsl => (match Nat.ble ((n + 1) * el.bytes) (2 ^ 47), Nat.ble (n + 1) (2 ^ 47) with | true, true => growA h el.size 0 (n + 1) [] new | _, _ => none)
            | .esl => (match Nat.ble ((n + 1) * el.bytes) (2 ^ 47), Nat.ble (n + 1) (2 ^ 47) with | true, true => growA h el.size 0 (n + 1) [] new | _, _ => none)
            | .sl E id off len cap => (match h.get id, Nat.beq E el.size with
              | some (.cells cs), true => (match Nat.ble ((len + (n + 1)) * el.bytes) (2 ^ 47), Nat.ble (len + (n + 1)) (2 ^ 47) with
                | true, true => (match cap with
                  | some k => (match Nat.ble (len + (n + 1)) k with
                    | true => (match fits cs (off + len * E) new.length with
                      | true => some (.sl E id off (len + (n + 1)) cap, h.set id (some (.cells (lput cs (off + len * E) new))))
                      | false => none)
                    | false => (match srcA h E s with
                      | some (old, _) => growA h E len (n + 1) old new
                      | none => none))
                  | none => (match fits cs (off + len * E) new.length with
                    | true => some (.sl E id off (len + (n + 1)) cap, h.set id (some (.cells (lput cs (off + len * E) new))))
                    | false => (match srcA h E s, Nat.beq (off + len * E) cs.length with
                      | some (old, _), true => growA (h.set id none) E len (n + 1) old new
                      | _, _ => none)))
                | _, _ => none)
              | _, _ => none)
            | _ => none)
        | _, _, _ => none)
      | _, _ => none)
  | _ => none


/-- A row grown into a new block. -/
theorem grow_ok {g : Gh} {h : H} {w : World} (R : RS g h w) {E len n : Nat} {old new : List AV} {ov nv : List Value} (ho : RelL g old ov) (hn : RelL g new nv) (so : ∀ x ∈ old, x.sc = true) (sn : ∀ x ∈ new, x.sc = true)
    (lo : old.length = len * E) (ln : new.length = n * E) {y : AV} {h' : H} (hb : growA h E len n old new = some (y, h')) (T : TypeId) (newCap : Nat) (hc : len + n ≤ newCap) (rest : List Value) (hr : rest.length = (newCap - (len + n)) * E) :
    ∃ g', Ext g h w g' h' (w.drew.alloc (.cells ((ov ++ nv) ++ rest).toArray T)) ∧ RS g' h' (w.drew.alloc (.cells ((ov ++ nv) ++ rest).toArray T)) ∧ Rel g' y (.slice (some ⟨w.heap.size, 0, none⟩) (len + n) newCap) := by
  unfold growA at hb
  split at hb <;> cases hb
  rename_i hroom
  have R' : RS g h w.drew := R.of_heap rfl
  obtain ⟨e1, e2, e3⟩ := new_ok R' T (hn.append ho) (fun x hx => (List.mem_append.1 hx).elim (so x) (sn x)) hroom rest
  refine ⟨_, e1.of_heap rfl rfl rfl rfl, e2, ?_⟩
  have l1 := ho.length
  have l2 := hn.length
  refine .sl E _ 0 _ none _ _ _ newCap _ _ e3 ?_ hc (.inr ⟨rfl, rfl⟩)
  simp only [List.length_append]
  have : newCap * E = (len + n) * E + (newCap - (len + n)) * E := by rw [← Nat.add_mul]; congr 1; omega
  rw [this, Nat.add_mul]; omega

theorem zeroCells_len (z : Array Value) (n : Nat) : (Builtin.zeroCells z n).toList.length = n * z.size := by simp [Builtin.zeroCells]

theorem new_ok' {P : Program} {g : Gh} {h : H} {w : World} (R : RS g h w) {elem : TypeId} {el : TI} (hel : tiOf P elem = some el) {xT : Option TypeId} {x : AV} {v : Value} (hx : Rel g x v) {cs : List AV} {n : Nat} {zs : Bool}
    (hb : newCells (tiOf P) xT el h x = some (cs, n, zs)) :
    ∃ vs : List Value, RelL g cs vs ∧ (∀ y ∈ cs, y.sc = true) ∧ cs.length = n * el.size ∧
      ((xT = none ∧ zs = false) ∨ ∃ t xi, xT = some t ∧ tiOf P t = some xi ∧ (xi.d matches .int _) = zs) ∧
      (zs = false → ∀ w', w'.heap = w.heap → (Builtin.lenOf v).run P w' = .ok n w' ∧ (Builtin.firstCells el.size n v).run P w' = .ok vs.toArray w') ∧
      (zs = true → ∃ k i z, v = .int k (n : Int) ∧ n ≤ 2 ^ 47 ∧ n * el.bytes ≤ 2 ^ 47 ∧ P.info? elem = some i ∧ el.zero = some z ∧ ∀ w', (if n * el.size = 0 then (pure #[] : Sem (Array Value)) else do pure (Builtin.zeroCells (← zeroValue elem).cells n)).run P w' = .ok vs.toArray w') := by
  have plain : ∀ {cs : List AV} {n : Nat}, srcA h el.size x = some (cs, n) → ∃ vs : List Value, RelL g cs vs ∧ (∀ y ∈ cs, y.sc = true) ∧ cs.length = n * el.size ∧
      ∀ w', w'.heap = w.heap → (Builtin.lenOf v).run P w' = .ok n w' ∧ (Builtin.firstCells el.size n v).run P w' = .ok vs.toArray w' := fun h1 => by
    obtain ⟨vs, h2, h3, h4, h5, _⟩ := src_ok (P := P) R hx h1
    exact ⟨vs, h3, h4, h5, h2⟩
  unfold newCells at hb
  split at hb
  · split at hb <;> cases hb
    rename_i h1
    obtain ⟨vs, a1, a2, a3, a4⟩ := plain h1
    exact ⟨vs, a1, a2, a3, .inl ⟨rfl, rfl⟩, fun _ => a4, fun e => by cases e⟩
  · rename_i xT'
    split at hb
    · cases hb
    · rename_i xi hxi
      split at hb
      · rename_i k hd
        split at hb
        · rename_i m z hm hz
          split at hb <;> cases hb
          rename_i hsc hlen hble hby
          obtain ⟨kk, rfl⟩ := natA_rel hx hm
          have hsc' := allSc_iff hsc
          obtain ⟨zv, hrun, hzr⟩ := run_zero hel w hz g
          have hzc := rel_cells hzr hsc'
          have hzl := hzc.length
          have hlen' := (beq_iff _ _).1 hlen
          have hzsz : zv.cells.size = el.size := by rw [← hlen', hzl]; simp
          obtain ⟨i, hi, _⟩ := run_ti hel w
          refine ⟨repA n zv.cells.toList, repA_rel hzc n, repA_sc hsc' n, by rw [repA_length, hlen'], ?_, (fun e => by cases e), fun _ => ⟨kk, i, z, rfl, (ble_iff _ _).1 hble, (ble_iff _ _).1 hby, hi, hz, fun w' => ?_⟩⟩
          · exact .inr ⟨xT', xi, rfl, hxi, by rw [hd]⟩
          · obtain ⟨zv', hrun', _⟩ := run_zero hel w' hz g
            have hzz : zv' = zv := by
              obtain ⟨i1, a1, a2, a3, a4, a5, a6⟩ := tiOf_spec hel
              simp only [zeroValue, typeInfo, Sem.run_bind, run_program, Result.andThen_ok, a1, Sem.run_pure] at hrun hrun'
              cases hi0 : i1.zero with
              | none => rw [hi0] at hrun; cases hrun
              | some q => rw [hi0] at hrun hrun'; simp at hrun hrun'; rw [← hrun, ← hrun']
            by_cases h0 : n * el.size = 0
            · have : (repA n zv.cells.toList) = [] := by
                apply List.eq_nil_of_length_eq_zero
                rw [repA_length]; simpa [hzsz] using h0
              simp [h0, this]
            · simp only [h0, if_false, Sem.run_bind, hrun', Result.andThen_ok, Sem.run_pure, Builtin.zeroCells, hzz, rep_eq]
        · cases hb
      · rename_i hd
        split at hb <;> cases hb
        rename_i h1
        obtain ⟨vs, a1, a2, a3, a4⟩ := plain h1
        refine ⟨vs, a1, a2, a3, .inr ⟨xT', xi, rfl, hxi, ?_⟩, fun _ => a4, fun e => by cases e⟩
        cases hdd : xi.d <;> first | rfl | (exact absurd hdd (hd _))


/-- What 'append_' does where it must make a new row. -/
theorem run_app_grow {P : Program} {w : World} {sT : TypeId} {ts : Array TypeId} {ty elem : TypeId} {ti el : TI} (ht : tiOf P sT = some ti) (hd : ti.d = .slice elem) (hel : tiOf P elem = some el) (h0 : ts[0]? = some sT)
    {base : Option Addr} {sLen sCap n : Nat} {v : Value} {zs : Bool} {ov nv : List Value} {zv : Value}
    (hz : (ts[1]? = none ∧ zs = false) ∨ ∃ t xi, ts[1]? = some t ∧ tiOf P t = some xi ∧ (xi.d matches .int _) = zs)
    (hl : zs = false → ∀ w', w'.heap = w.heap → (Builtin.lenOf v).run P w' = .ok n w' ∧ (Builtin.firstCells el.size n v).run P w' = .ok nv.toArray w')
    (hzz : zs = true → ∃ k, v = .int k (n : Int) ∧ n ≤ 2 ^ 47 ∧ n * el.bytes ≤ 2 ^ 47 ∧ ∀ w', (if n * el.size = 0 then (pure #[] : Sem (Array Value)) else do pure (Builtin.zeroCells (← zeroValue elem).cells n)).run P w' = .ok nv.toArray w')
    (ho : ∀ w', w'.heap = w.heap → (Builtin.firstCells el.size sLen (.slice base sLen sCap)).run P w' = .ok ov.toArray w')
    (hzero : ∀ w', (zeroValue elem).run P w' = .ok zv w')
    (hg : sCap < sLen + n) (hb : (sLen + n) * el.bytes ≤ 2 ^ 47) (hm : sLen + n ≤ 2 ^ 47) :
    ∃ newCap, sLen + n ≤ newCap ∧ (Builtin.append_ ts ty #[.slice base sLen sCap, v]).run P w =
      .ok (.slice (some ⟨w.heap.size, 0, none⟩) (sLen + n) newCap) (w.drew.alloc (.cells ((ov ++ nv) ++ (Builtin.zeroCells zv.cells (newCap - (sLen + n))).toList).toArray elem)) := by
  obtain ⟨i, hi1, hi2, hi3, hi4⟩ := run_ti hel w
  have hti : ∀ w', (typeInfo elem).run P w' = .ok i w' := fun w' => by
    obtain ⟨j, hj1, hj2, _⟩ := run_ti hel w'
    rw [hi1] at hj1; cases hj1; exact hj2
  have hn : ¬ (sLen + n ≤ sCap) := by omega
  have hfit := growslice_fits (need := sLen + n) (old := sCap) (bytes := i.bytes) hg (by rw [← hi3]; exact hb)
  have hfit' : ¬ (Builtin.nextslicecap (sLen + n) sCap * i.bytes > 2 ^ 48) := by omega
  have h63 : ¬ (((sLen + n : Nat) : Int) > IntKind.i64.max) := by simp only [IntKind.max, IntKind.signed, IntKind.bits]; simp; omega
  refine ⟨(Question.appendCap (sLen + n) sCap elem).cut (w.tape w.drawn (.appendCap (sLen + n) sCap elem)), by simp [Question.cut], ?_⟩
  have hsz : ∀ w', (sizeOf elem).run P w' = .ok el.size w' := fun w' => run_size hel w'
  have hod := ho w.drew rfl
  have hod2 : ((ov.toArray ++ nv.toArray ++ Builtin.zeroCells zv.cells ((Question.appendCap (sLen + n) sCap elem).cut (w.tape w.drawn (.appendCap (sLen + n) sCap elem)) - (sLen + n))) : Array Value) =
      ((ov ++ nv) ++ (Builtin.zeroCells zv.cells ((Question.appendCap (sLen + n) sCap elem).cut (w.tape w.drawn (.appendCap (sLen + n) sCap elem)) - (sLen + n))).toList).toArray := by
    apply Array.ext'; simp
  unfold Builtin.append_
  have g0 : (#[Value.slice base sLen sCap, v] : Array Value)[0]? = some (.slice base sLen sCap) := rfl
  have g1 : (#[Value.slice base sLen sCap, v] : Array Value)[1]? = some v := rfl
  simp only [h0, g0, g1, Sem.run_bind, run_und ht, hd, Result.andThen_ok, hsz]
  cases zs with
  | false =>
    obtain ⟨hl1, hl2⟩ := hl rfl w rfl
    obtain ⟨_, hl3⟩ := hl rfl w.drew rfl
    rcases hz with ⟨hts, _⟩ | ⟨xT, xi, hts, hxi, hm⟩
    · simp only [hts, Sem.run_bind, Sem.run_pure, Result.andThen_ok, Bool.false_eq_true, if_false, hl1, hn, h63, false_and, hti, hfit', run_choose, Question.forced, run_askRoom, World.drew_eq, hod, hl3, hzero, newRow, run_newObj, Bool.not_false, if_true, World.alloc_eq, hod2]
      rfl
    · cases hdd : xi.d
      case int => rw [hdd] at hm; cases hm
      all_goals
      simp only [hts, Sem.run_bind, Sem.run_pure, Result.andThen_ok, run_und hxi, hdd, Bool.false_eq_true, if_false, hl1, hn, h63, false_and, hti, hfit', run_choose, Question.forced, run_askRoom, World.drew_eq, hod, hl3, hzero, newRow, run_newObj, Bool.not_false, if_true, World.alloc_eq, hod2]
      rfl
  | true =>
    obtain ⟨k, rfl, hz1, hz2, hz3⟩ := hzz rfl
    rcases hz with ⟨_, hts⟩ | ⟨xT, xi, hts, hxi, hm⟩
    · cases hts
    · have w1 := wrap_nat n hz1
      have c1 : ¬ ((n : Int) < 0) := by omega
      have c2 : ¬ ((n : Int) * (i.bytes : Int) > 2 ^ 48) := by
        have : (n : Int) * (i.bytes : Int) = ((n * el.bytes : Nat) : Int) := by rw [hi3]; simp
        omega
      have hz4 := hz3 w.drew
      cases hdd : xi.d
      case int =>
        simp only [hts, Sem.run_bind, Sem.run_pure, Result.andThen_ok, run_und hxi, hdd, asInt, asIntOf, w1, c1, c2, Int.toNat_natCast, if_true, if_false, hn, h63, false_and, hti, hfit', run_choose, Question.forced, run_askRoom, World.drew_eq, hod, hzero, newRow, run_newObj, Bool.not_true, Bool.false_eq_true, World.alloc_eq]
        by_cases h0 : n * el.size = 0
        · simp only [h0, if_true, Sem.run_bind, Sem.run_pure, Result.andThen_ok, hzero, run_newObj] at hz4 ⊢
          cases hz4
          simp only [hod2]
          rfl
        · simp only [h0, if_false, Sem.run_bind, Sem.run_pure, Result.andThen_ok, hzero, run_newObj, World.alloc_eq] at hz4 ⊢
          have hq : Builtin.zeroCells zv.cells n = nv.toArray := by simpa using hz4
          simp only [hq, hod2]
          rfl
      all_goals (rw [hdd] at hm; cases hm)


/-- What 'append_' does where there is room. -/
theorem run_app_room {P : Program} {w : World} {sT : TypeId} {ts : Array TypeId} {ty elem : TypeId} {ti el : TI} (ht : tiOf P sT = some ti) (hd : ti.d = .slice elem) (hel : tiOf P elem = some el) (h0 : ts[0]? = some sT)
    {base : Option Addr} {sLen sCap n : Nat} {v : Value} {zs : Bool} {nv : List Value}
    (hz : (ts[1]? = none ∧ zs = false) ∨ ∃ t xi, ts[1]? = some t ∧ tiOf P t = some xi ∧ (xi.d matches .int _) = zs)
    (hl : zs = false → ∀ w', w'.heap = w.heap → (Builtin.lenOf v).run P w' = .ok n w' ∧ (Builtin.firstCells el.size n v).run P w' = .ok nv.toArray w')
    (hzz : zs = true → ∃ k, v = .int k (n : Int) ∧ n ≤ 2 ^ 47 ∧ n * el.bytes ≤ 2 ^ 47 ∧ ∀ w', (if n * el.size = 0 then (pure #[] : Sem (Array Value)) else do pure (Builtin.zeroCells (← zeroValue elem).cells n)).run P w' = .ok nv.toArray w')
    (hg : sLen + n ≤ sCap) {w' : World} (hst : (match base with | some a => storeCells (a.add (sLen * el.size)) nv | none => pure () : Sem Unit).run P w = .ok () w') :
    (Builtin.append_ ts ty #[.slice base sLen sCap, v]).run P w = .ok (.slice base (sLen + n) sCap) w' := by
  obtain ⟨i, hi1, hi2, hi3, hi4⟩ := run_ti hel w
  have hsz : ∀ w', (sizeOf elem).run P w' = .ok el.size w' := fun w' => run_size hel w'
  unfold Builtin.append_
  have g0 : (#[Value.slice base sLen sCap, v] : Array Value)[0]? = some (.slice base sLen sCap) := rfl
  have g1 : (#[Value.slice base sLen sCap, v] : Array Value)[1]? = some v := rfl
  simp only [h0, g0, g1, Sem.run_bind, run_und ht, hd, Result.andThen_ok, hsz]
  cases zs with
  | false =>
    obtain ⟨hl1, hl2⟩ := hl rfl w rfl
    rcases hz with ⟨hts, _⟩ | ⟨xT, xi, hts, hxi, hm⟩
    · simp only [hts, Sem.run_bind, Sem.run_pure, Result.andThen_ok, Bool.false_eq_true, if_false, hl1, hg, hl2, if_true, Bool.not_false]
      cases base with
      | none => simp only at hst ⊢; cases hst; rfl
      | some a => simp only [Sem.run_bind] at hst ⊢; rw [hst]; rfl
    · cases hdd : xi.d
      case int => rw [hdd] at hm; cases hm
      all_goals
      simp only [hts, Sem.run_bind, Sem.run_pure, Result.andThen_ok, run_und hxi, hdd, Bool.false_eq_true, if_false, hl1, hg, hl2, if_true, Bool.not_false]
      cases base with
      | none => simp only at hst ⊢; cases hst; rfl
      | some a => simp only [Sem.run_bind] at hst ⊢; rw [hst]; rfl
  | true =>
    obtain ⟨k, rfl, hz1, hz2, hz3⟩ := hzz rfl
    rcases hz with ⟨_, hts⟩ | ⟨xT, xi, hts, hxi, hm⟩
    · cases hts
    · have w1 := wrap_nat n hz1
      have c1 : ¬ ((n : Int) < 0) := by omega
      have c2 : ¬ ((n : Int) * (i.bytes : Int) > 2 ^ 48) := by
        have : (n : Int) * (i.bytes : Int) = ((n * el.bytes : Nat) : Int) := by rw [hi3]; simp
        omega
      have hz4 := hz3 w
      cases hdd : xi.d
      case int =>
        simp only [hts, Sem.run_bind, Sem.run_pure, Result.andThen_ok, run_und hxi, hdd, asInt, asIntOf, w1, c1, c2, Int.toNat_natCast, if_true, if_false, hg, hi2, Bool.not_true, Bool.false_eq_true]
        by_cases h0 : n * el.size = 0
        · simp only [h0, if_true, Sem.run_bind, Sem.run_pure, Result.andThen_ok] at hz4 ⊢
          cases hz4
          cases base with
          | none => simp only at hst ⊢; cases hst; rfl
          | some a => simp only [Sem.run_bind] at hst ⊢; rw [hst]; rfl
        · simp only [h0, if_false, Sem.run_bind] at hz4 ⊢
          cases hzr : (zeroValue elem).run P w with
          | halt e w2 => rw [hzr] at hz4; cases hz4
          | ok q w2 =>
            rw [hzr] at hz4
            simp only [Result.andThen_ok, Sem.run_pure, Result.ok.injEq] at hz4 ⊢
            obtain ⟨e1, rfl⟩ := hz4
            rw [e1]
            cases base with
            | none => simp only at hst ⊢; cases hst; rfl
            | some a => simp only [Sem.run_bind] at hst ⊢; rw [hst]; rfl
      all_goals (rw [hdd] at hm; cases hm)

/-- The row goes on in its own block, under a new number. -/
theorem adopt_ok {P : Program} {g : Gh} {h : H} {w : World} (R : RS g h w) {id off len n k E b o c : Nat} {cs new old : List AV} {nv ov : List Value} (hid : h.get id = some (.cells cs)) (hφ : g.φ id = some (b, o, c)) (hk : off + k * E = c) (hE : E ≠ 0)
    (n1 : RelL g new nv) (n2 : ∀ x ∈ new, x.sc = true) (n3 : new.length = n * E) (p1 : RelL g old ov) (p2 : ∀ x ∈ old, x.sc = true) (p3 : old.length = len * E) (hin : len + n ≤ k) (htip : off + len * E = cs.length) (hroom : (h.set id none).room = true)
    {m : Nat} (he : srcA h E (.sl E id off len none) = some (old, m)) {s : Sem Value} (hrun : ∀ w', (storeCells ((⟨b, o + off, none⟩ : Addr).add (len * E)) nv).run P w = .ok () w' → s.run P w = .ok (.slice (some ⟨b, o + off, none⟩) (len + n) k) w') :
    SOk P s g h w (.sl E (h.set id none).next 0 (len + n) none) ((h.set id none).new (.cells (old ++ new))) := by
  have hc1 := R.obj _ _ _ _ _ hid hφ
  obtain ⟨hsc, arr, T, lo, hi, us, h1, h2, h3, h4, h5, h6⟩ := hc1
  have hcl := h4.length
  have nl := n1.length
  have pl := p1.length
  have hmul : len * E + n * E ≤ k * E := by rw [← Nat.add_mul]; exact Nat.mul_le_mul_right E hin
  have hold : old = (cs.drop off).take (len * E) := by
    unfold srcA at he
    simp only [Nat.beq_refl, hid] at he
    split at he <;> cases he
    rfl
  have hov : RelL g old ((us.drop off).take (len * E)) := by rw [hold]; exact (h4.drop off).take _
  have hovl := hov.length
  have hcell : ∀ j, j < nv.length → (w.cell? ⟨b, o + (off + len * E) + 0 + j, none⟩).isSome = true := fun j hj => by
    have : o + (off + len * E) + j < arr.size := by omega
    simp [World.cell?, h1, this]
  have hfz : ∀ j, j < nv.length → w.frozen? ⟨b, o + (off + len * E) + 0 + j, none⟩ = false := fun j hj => by
    simp only [World.frozen?, h1]
    simp; omega
  have hst := run_storeCells_cells (P := P) b (o + (off + len * E)) nv 0 w hcell hfz (relL_oneCell n1 n2)
  have hheap := heap_setCells b T (lo, hi) nv (o + (off + len * E)) w arr h1 (by omega)
  have hsm := R.small id (by rw [hid]; simp)
  have R1 := R.kill id hsm
  have hf := R1.fresh (h.set id none).next (Nat.le_refl _)
  have hfr : ∀ b', b' < w.heap.size → b' ≠ b → (w.setCells b (o + (off + len * E)) nv).heap[b']? = w.heap[b']? := fun b' _ hne => heap_setCells_other b nv _ w b' hne
  have hle : g.le (g.add (h.set id none).next (b, o + off, k * E)) := Gh.le_add hf.1
  refine ⟨_, w.setCells b (o + (off + len * E)) nv, g.add (h.set id none).next (b, o + off, k * E), hrun _ (by rw [addr_add, Nat.add_assoc]; exact hst), ⟨hle, fun j hj => by unfold Gh.add; simp only; rw [if_neg (by have : (h.set id none).next = h.next := rfl; omega)], Nat.le_succ _, fun b' hb hn => hfr b' hb fun e => hn ⟨id, _, o, c, hid, e ▸ hφ⟩,
    fun b' hb ⟨j, a, oo, cc, j1, j2⟩ => ?_, by rw [size_setCells]; exact Nat.le_refl _, (rest_setCells b nv _ w).1, (rest_setCells b nv _ w).2.1, (rest_setCells b nv _ w).2.2⟩, ?_, ?_⟩
  · by_cases hj : j = (h.set id none).next
    · rw [hj] at j2; simp [Gh.add] at j2; obtain ⟨rfl, _⟩ := j2; exact ⟨id, _, o, c, hid, hφ⟩
    · rw [H.get_new_other _ j _ (Ne.symm hj)] at j1
      have hji : j ≠ id := fun e => by subst e; rw [H.get_set_same h j _ hsm] at j1; cases j1
      rw [H.get_set_other h id j _ (Ne.symm hji)] at j1
      exact ⟨j, a, oo, cc, j1, by simpa [Gh.add, hj] using j2⟩
  · refine R1.add hroom hfr ?_ ?_ ⟨fun x hx => (List.mem_append.1 hx).elim (p2 x) (n2 x), _, T, lo, hi, (us.drop off).take (len * E) ++ nv, hheap, ?_, ?_, (n1.append hov).mono hle, ?_, fun i hi' => ?_⟩
    · rintro ⟨j, a, oo, cc, j1, j2⟩
      have hji : j ≠ id := fun e => by subst e; rw [H.get_set_same h j _ hsm] at j1; cases j1
      rw [H.get_set_other h id j _ (Ne.symm hji)] at j1
      exact hji (R.disj j id a _ _ _ _ _ _ j1 hid j2 hφ)
    · intro i
      cases e : g.I b i with
      | none => rfl
      | some v => exact absurd ⟨id, _, o, c, hid, hφ⟩ (R.imm b i v e).2
    · simp [lput_length]; omega
    · simpa [lput_length] using h3
    · simp only [List.length_append]; omega
    · simp only [List.length_append] at hi'
      simp only [List.getElem?_toArray, lput_get arr.toList (o + (off + len * E)) nv (by simp; omega)]
      by_cases hlt : i < len * E
      · have : ¬ (o + (off + len * E) ≤ o + off + i ∧ o + off + i < o + (off + len * E) + nv.length) := by omega
        rw [if_neg this, List.getElem?_append_left (by omega), List.getElem?_take, if_pos hlt, List.getElem?_drop]
        have := h6 (off + i) (by omega)
        rw [Nat.add_assoc]; simpa using this
      · have : (o + (off + len * E) ≤ o + off + i ∧ o + off + i < o + (off + len * E) + nv.length) := by omega
        rw [if_pos this, List.getElem?_append_right (by omega)]
        congr 1; omega
  · refine .sl E _ 0 _ none b (o + off) (k * E) k b (o + off) (by simp [Gh.add]) (by simp) hin (.inr ⟨rfl, rfl⟩)

theorem append_ok {P : Program} {g : Gh} {h : H} {w : World} (R : RS g h w) {sT : TypeId} {ts : Array TypeId} {ty : TypeId} {ti : TI} (ht : tiOf P sT = some ti) (h0 : ts[0]? = some sT) {s x : AV} {u v : Value} (hs : Rel g s u) (hx : Rel g x v)
    {y : AV} {h' : H} (hb : appendA (tiOf P) ti ts[1]? s x h = some (y, h')) : SOk P (Builtin.append_ ts ty #[u, v]) g h w y h' := by
  unfold appendA at hb
  split at hb
  · rename_i elem hd
    split at hb
    · cases hb
    · rename_i el hel
      split at hb
      · rename_i z new n zs hz hnew
        obtain ⟨nv, n1, n2, n3, n4, n5, n6⟩ := new_ok' (P := P) R hel hx hnew
        have n6' : zs = true → ∃ k, v = .int k (n : Int) ∧ n ≤ 2 ^ 47 ∧ n * el.bytes ≤ 2 ^ 47 ∧ ∀ w', (if n * el.size = 0 then (pure #[] : Sem (Array Value)) else do pure (Builtin.zeroCells (← zeroValue elem).cells n)).run P w' = .ok nv.toArray w' := fun e =>
          let ⟨k, _, _, a1, a2, a3, _, _, a6⟩ := n6 e; ⟨k, a1, a2, a3, a6⟩
        have nl := n1.length
        split at hb
        · rename_i hzl hzs hE0
          have hE : el.size ≠ 0 := fun e => by rw [e] at hE0; cases hE0
          obtain ⟨zv, hzrun, hzr⟩ := run_zero hel w hz g
          have hzc := rel_cells hzr (allSc_iff hzs)
          have hzl' := (beq_iff _ _).1 hzl
          have hzsz : zv.cells.size = el.size := by rw [← hzl', hzc.length]; simp
          have hzero : ∀ w', (zeroValue elem).run P w' = .ok zv w' := fun w' => by
            obtain ⟨i1, a1, a2, a3, a4, a5, a6⟩ := tiOf_spec hel
            simp only [zeroValue, typeInfo, Sem.run_bind, run_program, Result.andThen_ok, a1, Sem.run_pure] at hzrun ⊢
            cases hi0 : i1.zero with
            | none => rw [hi0] at hzrun; cases hzrun
            | some q => rw [hi0] at hzrun; simp at hzrun; simp [hzrun]
          have grow : ∀ {h1 : H} {base : Option Addr} {len n : Nat} {old : List AV} {cap : Nat} {y : AV} {h' : H} {ov nv : List Value} {new : List AV}, RS g h1 w → RelL g old ov → (∀ x ∈ old, x.sc = true) → old.length = len * el.size →
              RelL g new nv → (∀ x ∈ new, x.sc = true) → new.length = n * el.size →
              ((ts[1]? = none ∧ zs = false) ∨ ∃ t xi, ts[1]? = some t ∧ tiOf P t = some xi ∧ (xi.d matches .int _) = zs) →
              (zs = false → ∀ w', w'.heap = w.heap → (Builtin.lenOf v).run P w' = .ok n w' ∧ (Builtin.firstCells el.size n v).run P w' = .ok nv.toArray w') →
              (zs = true → ∃ k, v = .int k (n : Int) ∧ n ≤ 2 ^ 47 ∧ n * el.bytes ≤ 2 ^ 47 ∧ ∀ w', (if n * el.size = 0 then (pure #[] : Sem (Array Value)) else do pure (Builtin.zeroCells (← zeroValue elem).cells n)).run P w' = .ok nv.toArray w') →
              (∀ w', w'.heap = w.heap → (Builtin.firstCells el.size len (.slice base len cap)).run P w' = .ok ov.toArray w') → cap < len + n → (len + n) * el.bytes ≤ 2 ^ 47 → len + n ≤ 2 ^ 47 →
              growA h1 el.size len n old new = some (y, h') → u = .slice base len cap →
              ∃ v' w' g', (Builtin.append_ ts ty #[u, v]).run P w = .ok v' w' ∧ Ext g h1 w g' h' w' ∧ RS g' h' w' ∧ Rel g' y v' := by
            intro h1 base len n old cap y h' ov nv new R1 o1 o2 o3 m1 m2 m3 hzz hl1 hl2 hfirst hlt hby hle hgr hu
            subst hu
            obtain ⟨newCap, hc1, hc2⟩ := run_app_grow (P := P) (w := w) (ty := ty) ht hd hel h0 hzz hl1 hl2 hfirst hzero hlt hby hle
            obtain ⟨g', e1, e2, e3⟩ := grow_ok R1 o1 m1 o2 m2 o3 m3 hgr elem newCap hc1 (Builtin.zeroCells zv.cells (newCap - (len + n))).toList (by rw [zeroCells_len, hzsz])
            exact ⟨_, _, g', hc2, e1, e2, e3⟩
          split at hb
          · -- nothing is appended
            have nv0 : nv = [] := by apply List.eq_nil_of_length_eq_zero; rw [← nl, n3]; simp
            subst nv0
            have still : ∀ {base : Option Addr} {len cap : Nat}, u = .slice base len cap → len ≤ cap → SOk P (Builtin.append_ ts ty #[u, v]) g h w s h := fun {base len cap} hu hle => by
              subst hu
              refine .pure R (v := .slice base len cap) ?_ hs
              have := run_app_room (P := P) (w := w) (w' := w) (ty := ty) (base := base) (sLen := len) (sCap := cap) (n := 0) (v := v) ht hd hel h0 n4 n5 n6' hle (by cases base <;> rfl)
              simpa using this
            split at hb <;> cases hb
            · cases hs; exact still rfl (Nat.le_refl _)
            · cases hs; exact still rfl (Nat.le_refl _)
            · cases hs with
              | sl _ _ _ _ _ b o c k b' o' hφ hk hlk ha => exact still rfl hlk
            · cases hs with
              | vsl _ _ b o k vs hE hsc hr hI hk => exact still rfl hk
          · rename_i n
            split at hb
            · split at hb
              · rename_i hb1 hb2
                cases hs
                exact grow R .nil (by simp) (by simp) n1 n2 n3 n4 n5 n6' (fun w' _ => by simp [Builtin.firstCells]) (by omega) (by simpa using (ble_iff _ _).1 hb1) (by simpa using (ble_iff _ _).1 hb2) hb rfl
              · cases hb
            · split at hb
              · rename_i hb1 hb2
                cases hs
                exact grow R .nil (by simp) (by simp) n1 n2 n3 n4 n5 n6' (fun w' _ => by simp [Builtin.firstCells, loadCells, loadCellsFrom]) (by omega) (by simpa using (ble_iff _ _).1 hb1) (by simpa using (ble_iff _ _).1 hb2) hb rfl
              · cases hb
            · rename_i E id off len cap
              split at hb
              · rename_i cs hid hEE
                have hEE' := (beq_iff _ _).1 hEE
                subst hEE'
                split at hb
                · rename_i hb1 hb2
                  have hb1' := (ble_iff _ _).1 hb1
                  have hb2' := (ble_iff _ _).1 hb2
                  have hs0 := hs
                  cases hs with
                  | sl _ _ _ _ _ b o c k b' o' hφ hk hlk ha =>
                  have room : ∀ (k0 : Nat), k0 = k → len + (n + 1) ≤ k0 → fits cs (off + len * el.size) new.length = true →
                      some (AV.sl el.size id off (len + (n + 1)) cap, h.set id (some (.cells (lput cs (off + len * el.size) new)))) = some (y, h') → SOk P (Builtin.append_ ts ty #[.slice (some ⟨b', o', none⟩) len k, v]) g h w y h' := fun k0 hk0 hle hf he => by
                    cases he
                    subst hk0
                    rcases ha with ha | ⟨eb, eo⟩
                    · omega
                    · subst eb; subst eo
                      obtain ⟨w', q1, q2, q3⟩ := write_ok (P := P) R hid hφ n1 n2 hf
                      refine ⟨_, w', g, run_app_room (P := P) (w := w) (w' := w') (ty := ty) ht hd hel h0 n4 n5 n6' hle ?_, q2, q3, .sl _ _ _ _ _ _ _ c _ _ _ hφ hk hle (.inr ⟨rfl, rfl⟩)⟩
                      simp only [addr_add]
                      rw [Nat.add_assoc]; exact q1
                  have oldOk : ∀ {old : List AV} {m : Nat}, srcA h el.size (.sl el.size id off len cap) = some (old, m) → ∃ ov, RelL g old ov ∧ (∀ x ∈ old, x.sc = true) ∧ old.length = len * el.size ∧
                      ∀ w', w'.heap = w.heap → (Builtin.firstCells el.size len (.slice (some ⟨b', o', none⟩) len k)).run P w' = .ok ov.toArray w' := fun {old m} he => by
                    obtain ⟨ov, p1, p2, p3, p4, p5⟩ := src_ok (P := P) R hs0 he
                    have := p5 _ _ _ rfl
                    subst this
                    exact ⟨ov, p2, p3, p4, fun w' hw' => (p1 w' hw').2⟩
                  split at hb
                  · rename_i k1
                    split at hb
                    · rename_i hle
                      split at hb
                      · rename_i hf
                        exact room k1 hk.symm ((ble_iff _ _).1 hle) hf hb
                      · cases hb
                    · rename_i hle
                      split at hb
                      · rename_i old m he
                        obtain ⟨ov, p1, p2, p3, p4⟩ := oldOk he
                        have hk' : k = k1 := hk
                        have : ¬ len + (n + 1) ≤ k := fun hh => by
                          have := (ble_iff (len + (n + 1)) k1).2 (by omega)
                          rw [this] at hle; cases hle
                        exact grow R p1 p2 p3 n1 n2 n3 n4 n5 n6' p4 (by omega) hb1' hb2' hb rfl
                      · cases hb
                  · have hc1 := R.obj _ _ _ _ _ hid hφ
                    obtain ⟨vs, hv1, hv2, hv3⟩ := CellsAt.reads hc1
                    have hvl := hv1.length
                    simp only at hk
                    split at hb
                    · rename_i hf
                      have hf' := fits_iff _ _ _ hf
                      refine room k rfl ?_ hf hb
                      rw [n3] at hf'
                      have hf2 : off + len * el.size + (n + 1) * el.size ≤ cs.length := hf'
                      have h2 : (len + (n + 1)) * el.size ≤ k * el.size := by rw [Nat.add_mul]; omega
                      exact Nat.le_of_mul_le_mul_right h2 (Nat.pos_of_ne_zero hE)
                    · split at hb
                      · rename_i old m he htip
                        have htip' := (beq_iff _ _).1 htip
                        obtain ⟨ov, p1, p2, p3, p4⟩ := oldOk he
                        have hsm := R.small id (by rw [hid]; simp)
                        have hkill := R.kill id hsm
                        have extKill : Ext g h w g (h.set id none) w := ⟨.refl g, fun _ _ => rfl, Nat.le_refl _, fun _ _ _ => rfl, fun b2 _ ⟨j, a, oo, cc, j1, j2⟩ => by
                          by_cases hj : j = id
                          · subst hj; rw [H.get_set_same h j _ hsm] at j1; cases j1
                          · rw [H.get_set_other h id j _ (Ne.symm hj)] at j1; exact ⟨j, a, oo, cc, j1, j2⟩, Nat.le_refl _, rfl, rfl, rfl⟩
                        by_cases hin : len + (n + 1) ≤ k
                        · -- it went in place: the block is taken over by the new object
                          rcases ha with ha | ⟨eb, eo⟩
                          · omega
                          subst eb; subst eo
                          unfold growA at hb
                          split at hb <;> cases hb
                          rename_i hroom
                          exact adopt_ok R hid hφ hk hE n1 n2 n3 p1 p2 p3 hin htip' hroom he
                            (fun w' hst => run_app_room (P := P) (w := w) (w' := w') (ty := ty) ht hd hel h0 n4 n5 n6' hin hst)
                        · obtain ⟨v', w', g', q1, q2, q3, q4⟩ := grow hkill p1 p2 p3 n1 n2 n3 n4 n5 n6' p4 (by omega) hb1' hb2' hb rfl
                          exact ⟨v', w', g', q1, extKill.trans q2, q3, q4⟩
                      · cases hb
                · cases hb
              · cases hb
            · cases hb
        · cases hb
      · cases hb
  · cases hb

end
end Go.Ab
/-! len, copy, clear, maps, conversions, interfaces. -/
namespace Go.Ab
open Go
noncomputable section

def lenA (T : TypeId → Option TI) (ti : TI) (h : H) (x : AV) : Option Nat :=
  match ti.d with
  | .string => (match x with | .str s => some s.length | _ => none)
  | .array n _ => some n
  | .pointer arr => (match T arr with | some ai => (match ai.d with | .array n _ => some n | _ => none) | none => none)
  | .slice _ => (match x with | .nilsl => some 0 | .esl => some 0 | .sl _ _ _ n _ => some n | .vsl _ l => some l.length | _ => none)
  | .map _ _ => (match x with
    | .nilmap => some 0
    | .map id => (match h.get id with | some (.map es) => some es.length | _ => none)
    | _ => none)
  | _ => none
theorem len_ok {P : Program} {g : Gh} {h : H} {w : World} (R : RS g h w) {t : TypeId} {ts : Array TypeId} {ty : TypeId} {ti : TI} (ht : tiOf P t = some ti) (h0 : ts[0]? = some t) {x : AV} {u : Value} (hx : Rel g x u) {n : Nat}
    (hb : lenA (tiOf P) ti h x = some n) : SOk P (Builtin.len_ ts ty #[u]) g h w (.int .i64 (n : Int)) h := by
  refine .pure R (v := .int .i64 (n : Int)) ?_ (.int _ _)
  have g0 : (#[u] : Array Value)[0]? = some u := rfl
  unfold Builtin.len_
  simp only [h0, g0, Sem.run_bind, run_und ht, Result.andThen_ok]
  unfold lenA at hb
  split at hb
  · rename_i hd
    split at hb <;> cases hb
    cases hx
    simp [hd, goInt, ByteArray.size]
  · rename_i m e hd
    cases hb
    simp [hd, goInt]
  · rename_i arr hd
    split at hb
    · rename_i ai hai
      split at hb <;> cases hb
      rename_i e he
      simp only [hd, Sem.run_bind, run_und hai, Result.andThen_ok, he, Sem.run_pure, goInt]
    · cases hb
  · rename_i e hd
    split at hb <;> cases hb <;> cases hx <;> simp [hd, goInt]
  · rename_i k e hd
    split at hb
    · cases hb; cases hx; simp [hd, goInt]
    · split at hb <;> cases hb
      rename_i id es hid
      cases hx with
      | map _ b o c hφ =>
        obtain ⟨es', hp, ents, clock, h2, h3, h4, _⟩ := R.obj _ _ _ _ _ hid hφ
        have hl := h3.length
        simp at hl
        rw [hp.length] at hl
        simp only [hd, Sem.run_bind, getObj, Sem.run, h2, Result.andThen_ok, Sem.run_pure, goInt, hl]
    · cases hb
  · cases hb

/-! ### copy -/
def copyA (T : TypeId → Option TI) (ti : TI) (d s : AV) (h : H) : Option (Nat × H) :=
  match ti.d with
  | .slice elem => (match T elem with
    | none => none
    | some el => match srcA h el.size s with
      | none => none
      | some (cs, n) => match d with
        | .nilsl => some (0, h)
        | .esl => some (0, h)
        | .sl E id off len _ => (match h.get id, Nat.beq E el.size, Nat.beq E 0 with
          | some (.cells old), true, false => (match cs.take ((min n len) * E) with
            | new => match fits old off new.length with
              | true => some (min n len, h.set id (some (.cells (lput old off new))))
              | false => none)
          | _, _, _ => none)
        | _ => none)
  | _ => none

theorem copy_ok {P : Program} {g : Gh} {h : H} {w : World} (R : RS g h w) {t : TypeId} {ts : Array TypeId} {ty : TypeId} {ti : TI} (ht : tiOf P t = some ti) (h0 : ts[0]? = some t) {d s : AV} {u v : Value} (hd : Rel g d u) (hs : Rel g s v) {n : Nat} {h' : H}
    (hb : copyA (tiOf P) ti d s h = some (n, h')) : SOk P (Builtin.copy_ ts ty #[u, v]) g h w (.int .i64 (n : Int)) h' := by
  unfold copyA at hb
  split at hb
  · rename_i elem hdd
    split at hb
    · cases hb
    · rename_i el hel
      split at hb
      · cases hb
      · rename_i cs m hsrc
        obtain ⟨vs, a1, a2, a3, a4, _⟩ := src_take (P := P) R hs hsrc
        obtain ⟨b1, b2⟩ := a1 w rfl
        have g0 : (#[u, v] : Array Value)[0]? = some u := rfl
        have g1 : (#[u, v] : Array Value)[1]? = some v := rfl
        have run : ∀ {base : Option Addr} {len cap : Nat} {w' : World}, u = .slice base len cap → (match base with | some a => storeCells a (vs.take ((min m len) * el.size)) | none => pure () : Sem Unit).run P w = .ok () w' →
            (Builtin.copy_ ts ty #[u, v]).run P w = .ok (.int .i64 ((min m len : Nat) : Int)) w' := fun {base len cap w'} hu hst => by
          subst hu
          unfold Builtin.copy_
          have c2 := b2 (Nat.min m len) (Nat.min_le_left _ _)
          simp only [h0, g0, g1, Sem.run_bind, run_und ht, Result.andThen_ok, hdd, b1, run_size hel, c2]
          cases base with
          | none => simp only at hst ⊢; cases hst; rfl
          | some a => simp only [Sem.run_bind] at hst ⊢; rw [hst]; rfl
        split at hb
        · cases hb; cases hd
          have := run (w' := w) rfl rfl
          exact .pure R (by simpa using this) (.int _ _)
        · cases hb
          cases hd with
          | esl b o =>
            have := run (w' := w) rfl (by simp [storeCells])
            exact .pure R (by simpa using this) (.int _ _)
        · rename_i E id off len cap
          split at hb
          · rename_i old hid hE hE0
            have hE' := (beq_iff _ _).1 hE
            subst hE'
            simp only at hb
            split at hb <;> cases hb
            rename_i hf
            have hn0 : el.size ≠ 0 := fun e => by rw [e] at hE0; cases hE0
            cases hd with
            | sl _ _ _ _ _ b o c k b' o' hφ hk hlk ha =>
              rcases ha with ha | ⟨eb, eo⟩
              · have hlen : len = 0 := by omega
                subst hlen
                have hnil : cs.take (min m 0 * el.size) = [] := by simp
                rw [hnil]
                have hput : ∀ (l : List AV) (n : Nat), lput l n [] = l := by
                  intro l
                  induction l with
                  | nil => intro n; rfl
                  | cons x xs ih => intro n; cases n <;> simp [lput, ih]
                rw [hput]
                have hc1 := R.obj _ _ _ _ _ hid hφ
                have := run (w' := w) rfl (by simp [storeCells])
                refine ⟨_, w, g, this, Ext.upd hid hφ (Nat.le_refl _) (fun _ _ _ => rfl) rfl rfl rfl, R.upd hid hφ (fun _ _ _ => rfl) hc1, .int _ _⟩
              · subst eb; subst eo
                obtain ⟨w', q1, q2, q3⟩ := write_ok (P := P) R hid hφ (a2.take ((min m len) * el.size)) (fun y hy => a3 y (List.mem_of_mem_take hy)) hf
                exact ⟨_, w', g, run rfl q1, q2, q3, .int _ _⟩
          · cases hb
        · cases hb
  · cases hb

/-! ### clear of a slice -/
def clearA (T : TypeId → Option TI) (ti : TI) (x : AV) (h : H) : Option H :=
  match x with
  | .nilsl => some h
  | .nilmap => some h
  | .map id => (match h.get id with | some (.map _) => some (h.set id (some (.map []))) | _ => none)
  | .sl E id off len _ => (match ti.d with
    | .slice elem => (match T elem with
      | none => none
      | some el => match el.zero, h.get id, Nat.beq E el.size with
        | some z, some (.cells old), true => (match Nat.beq z.cells.length el.size, allSc z.cells, fits old off (repA len z.cells).length, Nat.beq len 0 with
          | true, true, true, false => some (h.set id (some (.cells (lput old off (repA len z.cells)))))
          | _, _, _, true => some h
          | _, _, _, _ => none)
        | _, _, _ => none)
    | _ => none)
  | _ => none
theorem clear_ok {P : Program} {g : Gh} {h : H} {w : World} (R : RS g h w) {t : TypeId} {ts : Array TypeId} {ty : TypeId} {ti : TI} (ht : tiOf P t = some ti) (h0 : ts[0]? = some t) {x : AV} {u : Value} (hx : Rel g x u) {h' : H}
    (hb : clearA (tiOf P) ti x h = some h') : SOk P (Builtin.clear_ ts ty #[u]) g h w undefA h' := by
  have g0 : (#[u] : Array Value)[0]? = some u := rfl
  unfold clearA at hb
  split at hb
  · cases hb; cases hx
    refine .pure R (v := undef) ?_ (Rel.undef g)
    unfold Builtin.clear_
    simp only [h0, g0, Sem.run_bind, run_und ht, Result.andThen_ok]
    cases ti.d <;> rfl
  · cases hb; cases hx
    refine .pure R (v := undef) ?_ (Rel.undef g)
    unfold Builtin.clear_
    simp only [h0, g0, Sem.run_bind, run_und ht, Result.andThen_ok]
    cases ti.d <;> rfl
  · rename_i id
    split at hb <;> cases hb
    rename_i es hid
    cases hx with
    | map _ b o c hφ =>
      have hobj := R.obj _ _ _ _ _ hid hφ
      obtain ⟨es', hp, ents, clock, h2, h3, h4, _⟩ := hobj
      have hlt : b < w.heap.size := (Array.getElem?_eq_some_iff.1 h2).1
      have hfr : ∀ b', b' < w.heap.size → b' ≠ b → (w.heap.setIfInBounds b (.map #[] clock))[b']? = w.heap[b']? := fun b' _ hne => by rw [Array.getElem?_setIfInBounds]; simp [Ne.symm hne]
      refine ⟨undef, { w with heap := w.heap.setIfInBounds b (.map #[] clock) }, g, ?_, Ext.upd hid hφ (by simp) hfr rfl rfl rfl, R.upd hid hφ hfr ⟨[], .inl rfl, #[], clock, by simp [hlt], .nil, .nil, St.nil _⟩, Rel.undef g⟩
      unfold Builtin.clear_
      simp only [h0, g0, Sem.run_bind, run_und ht, Result.andThen_ok]
      cases ti.d <;> simp [getObj, setObj, Sem.run, h2] <;> rfl
  · rename_i E id off len cap
    split at hb
    · rename_i elem hd
      split at hb
      · cases hb
      · rename_i el hel
        split at hb
        · rename_i z old hz hid hE
          have hE' := (beq_iff _ _).1 hE
          subst hE'
          have zero : len = 0 → SOk P (Builtin.clear_ ts ty #[u]) g h w undefA h := fun e => by
            subst e
            cases hx with
            | sl _ _ _ _ _ b o c k b' o' hφ hk hlk ha =>
              refine .pure R (v := undef) ?_ (Rel.undef g)
              unfold Builtin.clear_
              simp only [h0, g0, Sem.run_bind, run_und ht, Result.andThen_ok]
              cases ti.d <;> rfl
          split at hb
          · rename_i hzl hsc hf hl0
            cases hb
            have hsc' := allSc_iff hsc
            obtain ⟨zv, hrun, hzr⟩ := run_zero hel w hz g
            have hzc := rel_cells hzr hsc'
            have hlz := (beq_iff _ _).1 hzl
            have hzsz : zv.cells.size = el.size := by rw [← hlz, hzc.length]; simp
            have hlen0 : len ≠ 0 := fun e => by rw [e] at hl0; cases hl0
            cases hx with
            | sl _ _ _ _ _ b o c k b' o' hφ hk hlk ha =>
              rcases ha with ha | ⟨eb, eo⟩
              · omega
              · subst eb; subst eo
                obtain ⟨w', q1, q2, q3⟩ := write_ok (P := P) R hid hφ (repA_rel hzc len) (repA_sc hsc' len) hf
                refine ⟨undef, w', g, ?_, q2, q3, Rel.undef g⟩
                unfold Builtin.clear_
                obtain ⟨n, rfl⟩ : ∃ n, len = n + 1 := ⟨len - 1, by omega⟩
                simp only [h0, g0, Sem.run_bind, run_und ht, Result.andThen_ok, hd, hrun, Builtin.zeroCells, rep_eq, List.toList_toArray, q1]
                rfl
          · rename_i hl0
            cases hb
            exact zero ((beq_iff _ _).1 hl0)
          · cases hb
        · cases hb
    · cases hb
  · cases hb

end
end Go.Ab
/-! '==' of structs and arrays of numbers, texts and truths; keys of maps. -/
namespace Go.Ab
open Go
noncomputable section

def eqS (d : TypeDesc) (x y : AV) : Option Bool :=
  match d, x, y with
  | .int _, .int k a, .int k' b => (match ikEq k k' with | true => some (iEq a b) | false => none)
  | .string, .str a, .str b => some (eqList a b)
  | .bool, .bool a, .bool b => some (a == b)
  | _, _, _ => none
def eqPart (T : TypeId → Option TI) (t : TypeId) (xs ys : List AV) (off : Nat) : Option Bool :=
  match T t, partA T t xs off, partA T t ys off with | some ti, some x, some y => eqS ti.d x y | _, _, _ => none
def eqFs (T : TypeId → Option TI) (xs ys : List AV) : List Field → Option Bool
  | [] => some true
  | f :: r => match decide (f.name = "_") with
    | true => none
    | false => match eqPart T f.type xs ys f.offset with
      | some true => eqFs T xs ys r
      | some false => some false
      | none => none
def eqIs (T : TypeId → Option TI) (e : TypeId) (c : Nat) (xs ys : List AV) : List Nat → Option Bool
  | [] => some true
  | i :: r => match eqPart T e xs ys (i * c) with
    | some true => eqIs T e c xs ys r
    | some false => some false
    | none => none
def eqAgg (T : TypeId → Option TI) (ti : TI) (xs ys : List AV) : Option Bool :=
  match ti.eqg with
  | true => none
  | false => match ti.d with
    | .struct fs => (match ti.held with | false => eqFs T xs ys fs.toList | true => none)
    | .array n e => (match T e with | some ei => eqIs T e ei.size xs ys (List.range n) | none => none)
    | _ => none

section
variable {P : Program} {g : Gh} (w : World)
theorem eqS_ok (n : Nat) {t : TypeId} {d : TypeDesc} (hd : P.underlying t = some d) {x y : AV} {u v : Value} (hx : Rel g x u) (hy : Rel g y v) {r : Bool} (h : eqS d x y = some r) :
    (Op.equalIn (n + 1) t u v).run P w = .ok r w := by
  unfold eqS at h
  split at h
  · split at h <;> cases h
    rename_i hk
    obtain rfl := ikEq_eq hk
    cases hx; cases hy
    simp [Op.equalIn, underlying, hd, iEq_eq]
  · cases h; cases hx; cases hy
    rename_i a b
    simp only [Op.equalIn, underlying, hd, Sem.run_bind, run_program, Result.andThen_ok, Sem.run_pure]
    congr 1
    rw [beq_toListBytes, toList_mk, toList_mk, eqList_eq]
  · cases h; cases hx; cases hy
    simp [Op.equalIn, underlying, hd]
  · cases h
theorem check_ok {t : TypeId} {d : TypeDesc} (hd : P.underlying t = some d) {x y : AV} {u : Value} {r : Bool} (h : eqS d x y = some r) (em : Bool) (n : Nat) : (Instr.checkKey em (n + 1) t u).run P w = .ok () w := by
  unfold Instr.checkKey
  unfold eqS at h
  split at h <;> first | (cases h; done) | skip
  all_goals simp [underlying, hd]

variable {xs ys : List AV} {us vs : List Value} (sx : ∀ x ∈ xs, x.sc = true) (sy : ∀ y ∈ ys, y.sc = true) (hx : RelL g xs us) (hy : RelL g ys vs)
include sx sy hx hy
theorem eqPart_ok {t : TypeId} {off : Nat} {r : Bool} (h : eqPart (tiOf P) t xs ys off = some r) :
    ∃ a b, (part t us.toArray off).run P w = .ok a w ∧ (part t vs.toArray off).run P w = .ok b w ∧ (∀ n, (Op.equalIn (n + 1) t a b).run P w = .ok r w) ∧ ∀ em n c, (Instr.checkKey em (n + 1) t c).run P w = .ok () w := by
  unfold eqPart at h
  split at h
  · rename_i ti x y ht h1 h2
    obtain ⟨a, a1, a2⟩ := part_ok w sx hx h1
    obtain ⟨b, b1, b2⟩ := part_ok w sy hy h2
    obtain ⟨i, _, hd, _⟩ := tiOf_spec ht
    exact ⟨a, b, a1, b1, fun n => eqS_ok w n hd a2 b2 h, fun em n c => check_ok w hd h em n⟩
  · cases h
theorem eqFs_ok (n : Nat) : ∀ (fs : List Field) {r : Bool}, eqFs (tiOf P) xs ys fs = some r → (Op.eqFields (n + 1) us.toArray vs.toArray fs).run P w = .ok r w
  | [], r, h => by cases h; simp [Op.eqFields]
  | f :: fs, r, h => by
    unfold eqFs at h
    split at h
    · cases h
    · rename_i hn
      have hn := of_decide_eq_false hn
      unfold Op.eqFields
      rw [if_pos hn]
      split at h
      · rename_i hp
        obtain ⟨a, b, p1, p2, p3, _⟩ := eqPart_ok w sx sy hx hy hp
        simp only [Sem.run_bind, p1, p2, p3 n, Result.andThen_ok, Bool.not_true, Bool.false_eq_true, if_false]
        exact eqFs_ok n fs h
      · rename_i hp
        cases h
        obtain ⟨a, b, p1, p2, p3, _⟩ := eqPart_ok w sx sy hx hy hp
        simp only [Sem.run_bind, p1, p2, p3 n, Result.andThen_ok, Bool.not_false, if_true, Sem.run_pure]
      · cases h
theorem eqIs_ok (n : Nat) {e : TypeId} {c : Nat} : ∀ (is : List Nat) {r : Bool}, eqIs (tiOf P) e c xs ys is = some r → (Op.eqItems (n + 1) e c us.toArray vs.toArray is).run P w = .ok r w
  | [], r, h => by cases h; simp [Op.eqItems]
  | i :: is, r, h => by
    unfold eqIs at h
    unfold Op.eqItems
    split at h
    · rename_i hp
      obtain ⟨a, b, p1, p2, p3, _⟩ := eqPart_ok w sx sy hx hy hp
      simp only [Sem.run_bind, p1, p2, p3 n, Result.andThen_ok, Bool.not_true, Bool.false_eq_true, if_false]
      exact eqIs_ok n is h
    · rename_i hp
      cases h
      obtain ⟨a, b, p1, p2, p3, _⟩ := eqPart_ok w sx sy hx hy hp
      simp only [Sem.run_bind, p1, p2, p3 n, Result.andThen_ok, Bool.not_false, if_true, Sem.run_pure]
    · cases h
theorem eqAgg_ok (n : Nat) {t : TypeId} {ti : TI} (ht : tiOf P t = some ti) {r : Bool} (h : eqAgg (tiOf P) ti xs ys = some r) :
    P.eqGuardType P.depth t = false ∧ (Op.equalIn (n + 2) t (.agg us.toArray) (.agg vs.toArray)).run P w = .ok r w := by
  obtain ⟨i, hi, hd, _⟩ := tiOf_spec ht
  obtain ⟨e1, e2⟩ := tiOf_eqg ht
  unfold eqAgg at h
  split at h
  · cases h
  · rename_i hg
    refine ⟨e1 ▸ hg, ?_⟩
    split at h
    · rename_i fs hds
      split at h
      · rename_i hh
        have hf : P.fieldsOf t = fs := by unfold Program.fieldsOf; rw [hd, hds]
        rw [run_equalIn_struct w (n + 1) t _ _ (by rw [hf, hd, hds]) (e2 ▸ hh), hf]
        exact eqFs_ok w sx sy hx hy n _ h
      · cases h
    · rename_i m e hds
      split at h
      · rename_i ei hei
        obtain ⟨ie, hie, _, hsz, _⟩ := tiOf_spec hei
        have hc : P.cellsOf e = ei.size := by unfold Program.cellsOf; rw [hie, hsz]; rfl
        rw [run_equalIn_array w (n + 1) _ _ (by rw [hd, hds]) hie, hc]
        exact eqIs_ok w sx sy hx hy n _ h
      · cases h
    · cases h
end

/-! ### keys -/
def pEq1 : AV → AV → Bool
  | .int k a, .int k' b => (match ikEq k k' with | true => iEq a b | false => false)
  | .str a, .str b => eqList a b
  | .bool a, .bool b => a == b
  | _, _ => false
def lEq1 : List AV → List AV → Bool
  | [], [] => true
  | a :: x, b :: y => (match pEq1 a b with | true => lEq1 x y | false => false)
  | _, _ => false
theorem pEq1_ok {g : Gh} {a b : AV} {u v : Value} (h : pEq1 a b = true) (hu : Rel g a u) (hv : Rel g b v) : u = v ∧ ∀ n, Instr.sameBits n u v = true := by
  unfold pEq1 at h
  split at h
  · split at h
    · rename_i hk
      obtain rfl := ikEq_eq hk
      have := (iEq_iff _ _).1 h
      subst this
      cases hu; cases hv
      exact ⟨rfl, fun n => by cases n <;> simp [Instr.sameBits]⟩
    · cases h
  · have := (eqList_iff _ _).1 h
    subst this
    cases hu; cases hv
    refine ⟨rfl, fun n => ?_⟩
    cases n <;> (show ((_ : Array UInt8) == _) = true; simp)
  · have := eq_of_beq h
    subst this
    cases hu; cases hv
    exact ⟨rfl, fun n => by cases n <;> simp [Instr.sameBits]⟩
  · cases h
theorem lEq1_ok {g : Gh} : ∀ {x y : List AV} {us vs : List Value}, lEq1 x y = true → RelL g x us → RelL g y vs → us = vs ∧ ∀ n, (us.zip vs).all (fun (p : Value × Value) => Instr.sameBits n p.1 p.2) = true
  | [], [], _, _, _, h1, h2 => by cases h1; cases h2; exact ⟨rfl, fun _ => rfl⟩
  | [], _ :: _, _, _, h, _, _ => by cases h
  | _ :: _, [], _, _, h, _, _ => by cases h
  | a :: x, b :: y, _, _, h, h1, h2 => by
    unfold lEq1 at h
    split at h
    · rename_i hp
      cases h1 with
      | cons _ u _ us hu h1 =>
      cases h2 with
      | cons _ v _ vs hv h2 =>
      obtain ⟨e1, e2⟩ := pEq1_ok hp hu hv
      obtain ⟨e3, e4⟩ := lEq1_ok h h1 h2
      exact ⟨by rw [e1, e3], fun n => by simp only [List.zip_cons_cons, List.all_cons, e2 n, e4 n, Bool.and_self]⟩
    · cases h

def findG (T : TypeId → Option TI) (ki : TI) (xs : List AV) : List (AV × AV) → Nat → Option (Option (Nat × AV))
  | [], _ => some none
  | (.agg ys, v) :: r, i => (match eqAgg T ki xs ys with
    | some true => (match lEq1 ys xs with | true => some (some (i, v)) | false => none)
    | some false => findG T ki xs r (i + 1)
    | none => none)
  | _ :: _, _ => none
theorem findG_ok {P : Program} {g : Gh} (w : World) {kt : TypeId} {ki : TI} (ht : tiOf P kt = some ki) {xs : List AV} {us : List Value} (sx : ∀ x ∈ xs, x.sc = true) (hx : RelL g xs us) : ∀ (es : List (AV × AV)) (ents : List MapEntry) (i : Nat), RelL g (es.map (·.1)) (ents.map (·.key)) → RelL g (es.map (·.2)) (ents.map (·.val)) →
    ∀ {r : Option (Nat × AV)}, findG (tiOf P) ki xs es i = some r → ∃ q, (Instr.findAsking kt (.agg us.toArray) ents i).run P w = .ok q w ∧ (match r, q with
      | none, none => True
      | some (j, x), some (j', y) => j' = j ∧ Rel g x y ∧ i ≤ j ∧ j - i < es.length ∧ (∃ a e, es[j - i]? = some a ∧ ents[j - i]? = some e ∧ (Instr.keyThatStays e.key (.agg us.toArray)).run P w = .ok (.agg us.toArray) w)
      | _, _ => False)
  | [], [], i, _, _, r, h => by cases h; exact ⟨none, rfl, trivial⟩
  | [], _ :: _, _, h, _, _, _ => by cases h
  | _ :: _, [], _, h, _, _, _ => by cases h
  | (a, x) :: es, e :: ents, i, h1, h2, r, h => by
    simp only [List.map_cons] at h1 h2
    cases h1 with
    | cons _ _ _ _ ha h1 =>
    cases h2 with
    | cons _ _ _ _ hxv h2 =>
    cases a with
    | agg ys =>
      unfold findG at h
      unfold Instr.findAsking
      generalize hq : e.key = q at ha
      cases ha with
      | agg _ vs sy hy =>
      split at h
      · rename_i he
        split at h
        · rename_i hl
          cases h
          have h3 := (eqAgg_ok w sx sy hx hy 9998 ht he).2
          obtain ⟨e1, e2⟩ := lEq1_ok hl hy hx
          refine ⟨some (i, e.val), ?_, rfl, hxv, Nat.le_refl _, by simp, (.agg ys, x), e, by simp, by simp, ?_⟩
          · show ((do if ← Op.equal kt _ _ then _ else _ : Sem _)).run P w = _
            simp only [Sem.run_bind, Op.equal, Op.maxDepth, h3, Result.andThen_ok, if_true, Sem.run_pure]
          · rw [hq]
            unfold Instr.keyThatStays
            rw [if_pos]
            · rfl
            · subst e1
              have := e2 9999
              show (_ == _ && _) = true
              simpa using this
        · cases h
      · rename_i he
        have h3 := (eqAgg_ok w sx sy hx hy 9998 ht he).2
        obtain ⟨q, q1, q2⟩ := findG_ok w ht sx hx es ents (i + 1) h1 h2 h
        refine ⟨q, ?_, ?_⟩
        · show ((do if ← Op.equal kt _ _ then _ else _ : Sem _)).run P w = _
          simp only [Sem.run_bind, Op.equal, Op.maxDepth, h3, Result.andThen_ok, Bool.false_eq_true, if_false]
          exact q1
        · cases r with
          | none => cases q with
            | none => trivial
            | some _ => exact q2.elim
          | some jx => cases q with
            | none => exact q2.elim
            | some jy =>
              obtain ⟨z1, z2, z3, z4, a', e', z5, z6, z7⟩ := q2
              have hsub : jx.1 - i = (jx.1 - (i + 1)) + 1 := by omega
              exact ⟨z1, z2, by omega, by simp; omega, a', e', by rw [hsub]; simpa using z5, by rw [hsub]; simpa using z6, z7⟩
      · cases h
    | _ => cases h

theorem eqFs_all {T : TypeId → Option TI} {xs ys : List AV} : ∀ {fs : List Field}, eqFs T xs ys fs = some true → ∀ f ∈ fs, f.name ≠ "_" ∧ eqPart T f.type xs ys f.offset = some true
  | [], _, f, hf => by cases hf
  | f0 :: fs, h, f, hf => by
    unfold eqFs at h
    split at h
    · cases h
    · rename_i hn
      split at h
      · rename_i hp
        rcases List.mem_cons.1 hf with rfl | hf
        · exact ⟨of_decide_eq_false hn, hp⟩
        · exact eqFs_all h f hf
      · cases h
      · cases h
theorem eqIs_all {T : TypeId → Option TI} {e : TypeId} {c : Nat} {xs ys : List AV} : ∀ {is : List Nat}, eqIs T e c xs ys is = some true → ∀ i ∈ is, eqPart T e xs ys (i * c) = some true
  | [], _, f, hf => by cases hf
  | f0 :: fs, h, f, hf => by
    unfold eqIs at h
    split at h
    · rename_i hp
      rcases List.mem_cons.1 hf with rfl | hf
      · exact hp
      · exact eqIs_all h f hf
    · cases h
    · cases h
theorem checkG_ok {P : Program} {g : Gh} (w : World) {kt : TypeId} {ki : TI} (ht : tiOf P kt = some ki) {xs : List AV} {us : List Value} (sx : ∀ x ∈ xs, x.sc = true) (hx : RelL g xs us) (h : eqAgg (tiOf P) ki xs xs = some true) (em : Bool) (n : Nat) :
    (Instr.checkKey em (n + 2) kt (.agg us.toArray)).run P w = .ok () w := by
  obtain ⟨i, hi, hd, _⟩ := tiOf_spec ht
  unfold eqAgg at h
  split at h
  · cases h
  · split at h
    · rename_i fs hds
      split at h
      · have each := eqFs_all h
        rw [Instr.checkKey]
        simp only [Sem.run_bind, underlying, run_program, Result.andThen_ok, hd, hds, Sem.run_pure]
        rw [← Array.forIn_toList]
        clear h hds
        generalize fs.toList = L at each
        induction L with
        | nil => simp
        | cons f L ih =>
          obtain ⟨hn, hp⟩ := each f (by simp)
          obtain ⟨a, b, p1, _, _, p4⟩ := eqPart_ok w sx sx hx hx hp
          simp only [List.forIn_cons, Sem.run_bind, hn, ne_eq, not_false_eq_true, if_true, Result.andThen_ok, p1, p4, Sem.run_pure]
          exact ih (fun y hy => each y (by simp [hy]))
      · cases h
    · rename_i m e hds
      split at h
      · rename_i ei hei
        have each := eqIs_all h
        rw [Instr.checkKey]
        simp only [Sem.run_bind, underlying, run_program, Result.andThen_ok, hd, hds, Sem.run_pure]
        simp only [Std.Legacy.Range.forIn_eq_forIn_range', Std.Legacy.Range.size, Nat.sub_zero, Nat.add_one_sub_one, Nat.div_one]
        rw [List.range_eq_range'] at each
        clear h hds
        generalize List.range' 0 m = is at each
        induction is with
        | nil => simp
        | cons j is ih =>
          obtain ⟨a, b, p1, _, _, p4⟩ := eqPart_ok w sx sx hx hx (each j (by simp))
          simp only [List.forIn_cons, Sem.run_bind, run_size hei, Result.andThen_ok, p1, p4, Sem.run_pure]
          exact ih (fun y hy => each y (by simp [hy]))
      · cases h
    · cases h
end
end Go.Ab
/-! Maps, conversions, interfaces. -/
namespace Go.Ab
open Go
noncomputable section

def keySame : AV → AV → Option Bool
  | .int k a, .int k' b => (match ikEq k k' with | true => some (iEq a b) | false => none)
  | .str a, .str b => some (eqList a b)
  | _, _ => none
def findI (k : AV) : List (AV × AV) → Nat → Option (Option (Nat × AV))
  | [], _ => some none
  | (a, v) :: r, i => match keySame k a with
    | some true => some (some (i, v))
    | some false => findI k r (i + 1)
    | none => none
def keyTy : TypeDesc → AV → Bool
  | .int _, .int _ _ => true
  | .string, .str _ => true
  | _, _ => false

theorem same_ok {g : Gh} {d : TypeDesc} {k a : AV} {u v : Value} (hk : keyTy d k = true) (hu : Rel g k u) (hv : Rel g a v) {r : Bool} (h : keySame k a = some r) : Instr.sameNow d u v = some r := by
  unfold keySame at h
  split at h
  · split at h <;> cases h
    rename_i hik
    obtain rfl := ikEq_eq hik
    cases hu; cases hv
    cases d <;> simp [keyTy] at hk
    simp [Instr.sameNow, iEq_eq]
  · cases h; cases hu; cases hv
    cases d <;> simp [keyTy] at hk
    simp only [Instr.sameNow, eqList_eq]
    congr 1
    rename_i x y
    show (x.toArray == y.toArray) = (x == y)
    rw [Bool.eq_iff_iff, beq_iff_eq, beq_iff_eq]
    simp
  · cases h

theorem find_ok {g : Gh} {d : TypeDesc} {k : AV} {u : Value} (hk : keyTy d k = true) (hu : Rel g k u) : ∀ (es : List (AV × AV)) (ents : List MapEntry) (i : Nat), RelL g (es.map (·.1)) (ents.map (·.key)) → RelL g (es.map (·.2)) (ents.map (·.val)) →
    ∀ {r : Option (Nat × AV)}, findI k es i = some r → ∃ q, Instr.findNow d u ents i = some q ∧ (match r, q with
      | none, none => True
      | some (j, x), some (j', y) => j' = j ∧ Rel g x y ∧ i ≤ j ∧ j - i < es.length ∧ (∃ a e, es[j - i]? = some a ∧ ents[j - i]? = some e ∧ keySame k a.1 = some true)
      | _, _ => False)
  | [], [], i, _, _, r, h => by cases h; exact ⟨none, rfl, trivial⟩
  | [], _ :: _, _, h, _, _, _ => by cases h
  | _ :: _, [], _, h, _, _, _ => by cases h
  | (a, x) :: es, e :: ents, i, h1, h2, r, h => by
    simp only [List.map_cons] at h1 h2
    cases h1 with
    | cons _ _ _ _ ha h1 =>
    cases h2 with
    | cons _ _ _ _ hx h2 =>
    unfold findI at h
    unfold Instr.findNow
    split at h
    · rename_i hs
      cases h
      rw [same_ok hk hu ha hs]
      exact ⟨_, rfl, rfl, hx, Nat.le_refl _, by simp, (a, x), e, by simp, by simp, hs⟩
    · rename_i hs
      rw [same_ok hk hu ha hs]
      obtain ⟨q, q1, q2⟩ := find_ok hk hu es ents (i + 1) h1 h2 h
      refine ⟨q, q1, ?_⟩
      cases r with
      | none => cases q with
        | none => trivial
        | some _ => exact q2.elim
      | some jx => cases q with
        | none => exact q2.elim
        | some jy =>
          obtain ⟨z1, z2, z3, z4, a', e', z5, z6, z7⟩ := q2
          have hsub : jx.1 - i = (jx.1 - (i + 1)) + 1 := by omega
          exact ⟨z1, z2, by omega, by simp; omega, a', e', by rw [hsub]; simpa using z5, by rw [hsub]; simpa using z6, z7⟩
    · cases h

theorem checkKey_ok {P : Program} {g : Gh} (w : World) {t : TypeId} {ti : TI} (ht : tiOf P t = some ti) {k : AV} {u : Value} (hk : keyTy ti.d k = true) (hu : Rel g k u) (empty : Bool) (n : Nat) : (Instr.checkKey empty (n + 1) t u).run P w = .ok () w := by
  unfold Instr.checkKey
  simp only [Sem.run_bind, run_und ht, Result.andThen_ok]
  cases hd : ti.d <;> rw [hd] at hk <;> cases k <;> simp [keyTy] at hk
  · cases hu; rfl
  · cases hu; rfl

theorem findKey_ok {P : Program} (w : World) {t : TypeId} {ti : TI} (ht : tiOf P t = some ti) {u : Value} {ents : List MapEntry} {q : Option (Nat × Value)} (h : Instr.findNow ti.d u ents 0 = some q) :
    (Instr.findKey t u ents).run P w = .ok q w := by
  unfold Instr.findKey
  simp only [Sem.run_bind, run_und ht, Result.andThen_ok, h, Sem.run_pure]

theorem stays_ok {P : Program} {g : Gh} (w : World) {d : TypeDesc} {k a : AV} {u v : Value} (hk : keyTy d k = true) (hu : Rel g k u) (hv : Rel g a v) (h : keySame k a = some true) : (Instr.keyThatStays v u).run P w = .ok u w := by
  have hb : Instr.sameBits 10000 v u = true := by
    unfold keySame at h
    split at h
    · split at h
      case h_2 => cases h
      rename_i hik
      obtain rfl := ikEq_eq hik
      have := (iEq_iff _ _).1 (Option.some.inj h)
      subst this
      cases hu; cases hv
      simp [Instr.sameBits]
    · have := (eqList_iff _ _).1 (Option.some.inj h)
      subst this
      cases hu; cases hv
      show ((_ : Array UInt8) == _) = true
      simp
    · cases h
  unfold Instr.keyThatStays
  rw [if_pos hb]; rfl

/-- The place of a key. -/
def findA (T : TypeId → Option TI) (ki : TI) (k : AV) (es : List (AV × AV)) : Option (Option (Nat × AV)) :=
  match k with
  | .agg xs => (match eqAgg T ki xs xs with | some true => findG T ki xs es 0 | _ => none)
  | k => (match keyTy ki.d k with | true => findI k es 0 | false => none)

theorem findA_ok {P : Program} {g : Gh} (w : World) {kt : TypeId} {ki : TI} (ht : tiOf P kt = some ki) {k : AV} {u : Value} (hu : Rel g k u) {es : List (AV × AV)} {ents : List MapEntry} (h1 : RelL g (es.map (·.1)) (ents.map (·.key))) (h2 : RelL g (es.map (·.2)) (ents.map (·.val)))
    {r : Option (Nat × AV)} (h : findA (tiOf P) ki k es = some r) : (∀ em, (Instr.checkKey em 10000 kt u).run P w = .ok () w) ∧ ∃ q, (Instr.findKey kt u ents).run P w = .ok q w ∧ (match r, q with
      | none, none => True
      | some (j, x), some (j', y) => j' = j ∧ Rel g x y ∧ j < es.length ∧ (∃ e, ents[j]? = some e ∧ (Instr.keyThatStays e.key u).run P w = .ok u w)
      | _, _ => False) := by
  by_cases hagg : ∃ xs, k = .agg xs
  · obtain ⟨xs, rfl⟩ := hagg
    unfold findA at h
    simp only at h
    split at h
    · rename_i hs
      cases hu with
      | agg _ us sx hx =>
      refine ⟨fun em => checkG_ok w ht sx hx hs em 9998, ?_⟩
      obtain ⟨q, q1, q2⟩ := findG_ok w ht sx hx es ents 0 h1 h2 h
      refine ⟨q, ?_, ?_⟩
      · unfold Instr.findKey
        simp only [Sem.run_bind, run_und ht, Result.andThen_ok]
        cases ents with
        | nil =>
          simp only [Instr.findNow, Sem.run_pure]
          simpa [Instr.findAsking] using q1
        | cons e ents =>
          have hn : Instr.findNow ki.d (.agg us.toArray) (e :: ents) 0 = none := by
            unfold Instr.findNow
            have : Instr.sameNow ki.d (.agg us.toArray) e.key = none := by cases ki.d <;> rfl
            rw [this]
          rw [hn]
          exact q1
      · cases r with
        | none => cases q with
          | none => trivial
          | some _ => exact q2.elim
        | some jx => cases q with
          | none => exact q2.elim
          | some jy =>
            obtain ⟨z1, z2, z3, z4, a, e, z5, z6, z7⟩ := q2
            exact ⟨z1, z2, by simpa using z4, e, by simpa using z6, z7⟩
    · cases h
  · have e0 : findA (tiOf P) ki k es = match keyTy ki.d k with | true => findI k es 0 | false => none := by
      cases k <;> first | rfl | exact absurd ⟨_, rfl⟩ hagg
    rw [e0] at h
    split at h
    · rename_i hkt
      refine ⟨fun em => checkKey_ok w ht hkt hu em 9999, ?_⟩
      obtain ⟨q, q1, q2⟩ := find_ok hkt hu es ents 0 h1 h2 h
      refine ⟨q, findKey_ok w ht q1, ?_⟩
      cases r with
      | none => cases q with
        | none => trivial
        | some _ => exact q2.elim
      | some jx => cases q with
        | none => exact q2.elim
        | some jy =>
          obtain ⟨z1, z2, z3, z4, a, e, z5, z6, z7⟩ := q2
          refine ⟨z1, z2, by simpa using z4, e, by simpa using z6, ?_⟩
          have hkey : Rel g a.1 e.key := by
            obtain ⟨z, y1, y2⟩ := h1.get (i := jx.1) (x := a.1) (by simp at z5; simp [z5])
            simp at z6
            simp [z6] at y1
            exact y1 ▸ y2
          exact stays_ok w hkt hu hkey z7
    · cases h

theorem findI_int {kd : IntKind} {m : Int} : ∀ (l : List (AV × AV)) (i0 : Nat), (∀ p ∈ l, ∃ n, p.1 = .int kd n) →
    (findI (.int kd m) l i0 = some none ∧ ∀ p ∈ l, p.1 ≠ .int kd m) ∨ ∃ j v, findI (.int kd m) l i0 = some (some (i0 + j, v)) ∧ l[j]? = some (.int kd m, v)
  | [], _, _ => .inl ⟨rfl, by simp⟩
  | (a, v) :: r, i0, hl => by
    obtain ⟨n, hn⟩ := hl (a, v) (by simp)
    simp only at hn
    subst hn
    have hs : keySame (.int kd m) (.int kd n) = some (iEq m n) := by
      unfold keySame
      have : ikEq kd kd = true := by unfold ikEq; exact Nat.beq_refl _
      simp only [this]
    unfold findI
    rw [hs]
    cases he : iEq m n with
    | true =>
      have := (iEq_iff _ _).1 he
      subst this
      exact .inr ⟨0, v, rfl, rfl⟩
    | false =>
      have hne : n ≠ m := fun e => by rw [(iEq_iff m n).2 e.symm] at he; cases he
      rcases findI_int (kd := kd) (m := m) r (i0 + 1) (fun p hp => hl p (by simp [hp])) with ⟨h1, h2⟩ | ⟨j, v', h1, h2⟩
      · refine .inl ⟨h1, fun p hp => ?_⟩
        rcases List.mem_cons.1 hp with rfl | hp
        · simp [hne]
        · exact h2 p hp
      · exact .inr ⟨j + 1, v', by rw [show i0 + (j + 1) = i0 + 1 + j by omega]; exact h1, by simpa using h2⟩

theorem perm_erase {α : Type} : ∀ {l : List α} {j : Nat} {a : α}, l[j]? = some a → l.Perm (a :: l.eraseIdx j)
  | [], j, a, h => by simp at h
  | x :: r, 0, a, h => by simp at h; subst h; exact .refl _
  | x :: r, j + 1, a, h => by
    rw [List.getElem?_cons_succ] at h
    exact ((perm_erase h).cons x).trans (.swap a x _)
theorem perm_set {α : Type} {l : List α} {j : Nat} {a b : α} (h : l[j]? = some a) : (l.set j b).Perm (b :: l.eraseIdx j) := by
  obtain ⟨hj, _⟩ := List.getElem?_eq_some_iff.1 h
  have h1 : (l.set j b)[j]? = some b := by simp [hj]
  have h2 := perm_erase h1
  rwa [List.eraseIdx_set_eq] at h2

theorem mperm_find {T : TypeId → Option TI} {ki : TI} {k : AV} {es es' : List (AV × AV)} (hp : MPerm es' es) {r : Option (Nat × AV)} (h : findA T ki k es = some r) : ∃ r', findA T ki k es' = some r' ∧ (match r, r' with
    | none, none => ∀ x, MPerm (es' ++ [(k, x)]) (es ++ [(k, x)])
    | some (i, v), some (j, v') => v' = v ∧ (∀ x, MPerm (es'.set j (k, x)) (es.set i (k, x))) ∧ MPerm (es'.eraseIdx j) (es.eraseIdx i)
    | _, _ => False) := by
  have same : es' = es → ∃ r', findA T ki k es' = some r' ∧ (match r, r' with
    | none, none => ∀ x, MPerm (es' ++ [(k, x)]) (es ++ [(k, x)])
    | some (i, v), some (j, v') => v' = v ∧ (∀ x, MPerm (es'.set j (k, x)) (es.set i (k, x))) ∧ MPerm (es'.eraseIdx j) (es.eraseIdx i)
    | _, _ => False) := fun e => by
    subst e
    refine ⟨r, h, ?_⟩
    cases r with
    | none => exact fun _ => .inl rfl
    | some jx => exact ⟨rfl, fun _ => .inl rfl, .inl rfl⟩
  rcases hp with e | ⟨hp, ⟨kd, hk⟩, hnd⟩
  · exact same e
  · cases es with
    | nil => exact same hp.eq_nil
    | cons e0 es0 =>
      -- the key is a number of that kind
      obtain ⟨n0, hn0⟩ := hk e0 (by simp)
      obtain ⟨m, rfl⟩ : ∃ m, k = .int kd m := by
        obtain ⟨a0, v0⟩ := e0
        simp only at hn0
        subst hn0
        unfold findA at h
        cases k <;> simp only at h
        case agg xs =>
          split at h
          · unfold findG at h; cases h
          · cases h
        case int k' m =>
          split at h
          · unfold findI at h
            simp only [keySame] at h
            cases hik : ikEq k' kd with
            | true => exact ⟨m, by rw [ikEq_eq hik]⟩
            | false => rw [hik] at h; cases h
          · cases h
        all_goals
          split at h
          · unfold findI at h; simp only [keySame] at h; cases h
          · cases h
      have hkt : keyTy ki.d (.int kd m) = true := by
        unfold findA at h
        simp only at h
        split at h
        · rename_i h1; exact h1
        · cases h
      have fA : ∀ l, findA T ki (.int kd m) l = findI (.int kd m) l 0 := fun l => by
        unfold findA; simp only [hkt]
      rw [fA] at h
      have hk' : ∀ p ∈ es', ∃ n, p.1 = .int kd n := fun p hpm => hk p (hp.subset hpm)
      have fk : ∀ (l : List (AV × AV)), (∀ p ∈ l, ∃ n, p.1 = .int kd n) → ∀ x p, p ∈ l ++ [(AV.int kd m, x)] → ∃ n, p.1 = .int kd n := fun l hl x p hpm => by
        rcases List.mem_append.1 hpm with hpm | hpm
        · exact hl p hpm
        · simp at hpm; subst hpm; exact ⟨m, rfl⟩
      rcases findI_int (kd := kd) (m := m) (e0 :: es0) 0 hk with ⟨h1, h2⟩ | ⟨i, v, h1, h2⟩
      · rw [h1] at h
        cases h
        rcases findI_int (kd := kd) (m := m) es' 0 hk' with ⟨h3, h4⟩ | ⟨j, v, h3, h4⟩
        · refine ⟨none, by rw [fA]; exact h3, fun x => .inr ⟨hp.append_right _, ⟨kd, fk _ hk x⟩, ?_⟩⟩
          rw [List.map_append]
          refine List.nodup_append.2 ⟨hnd, by simp, fun a ha b hb e => ?_⟩
          simp at hb
          obtain ⟨p, hp1, hp2⟩ := List.mem_map.1 ha
          exact h2 p hp1 (by rw [hp2, e, hb])
        · exact absurd rfl (h2 _ (hp.subset (List.mem_of_getElem? h4)))
      · rw [h1] at h
        cases h
        rcases findI_int (kd := kd) (m := m) es' 0 hk' with ⟨h3, h4⟩ | ⟨j, v', h3, h4⟩
        · exact absurd rfl (h4 _ (hp.symm.subset (List.mem_of_getElem? h2)))
        · have hv : v' = v := by
            have m1 := hp.subset (List.mem_of_getElem? h4)
            obtain ⟨i', hi'⟩ := List.mem_iff_getElem?.1 m1
            have n1 : ((e0 :: es0).map (·.1))[i']? = some (.int kd m) := by rw [List.getElem?_map, hi']; rfl
            have n2 : ((e0 :: es0).map (·.1))[i]? = some (.int kd m) := by rw [List.getElem?_map, h2]; rfl
            have hi2 : i' < ((e0 :: es0).map (·.1)).length := (List.getElem?_eq_some_iff.1 n1).1
            have : i' = i := (List.getElem?_inj hi2 hnd).1 (n1.trans n2.symm)
            subst this
            rw [h2] at hi'
            cases hi'; rfl
          subst hv
          have pe : (es'.eraseIdx j).Perm ((e0 :: es0).eraseIdx i) := ((perm_erase h4).symm.trans (hp.trans (perm_erase h2))).cons_inv
          refine ⟨some (0 + j, v'), by rw [fA]; exact h3, rfl, fun x => .inr ⟨?_, ⟨kd, fun p hpm => ?_⟩, ?_⟩, .inr ⟨?_, ⟨kd, fun p hpm => hk p (List.mem_of_mem_eraseIdx hpm)⟩, ?_⟩⟩
          · simp only [Nat.zero_add]
            exact (perm_set h4).trans ((pe.cons _).trans (perm_set h2).symm)
          · simp only [Nat.zero_add] at hpm
            rcases List.mem_or_eq_of_mem_set hpm with hpm | rfl
            · exact hk p hpm
            · exact ⟨m, rfl⟩
          · simp only [Nat.zero_add]
            have : ((e0 :: es0).set i (.int kd m, x)).map (·.1) = (e0 :: es0).map (·.1) := by
              rw [List.map_set]
              apply List.ext_getElem?
              intro n
              rw [List.getElem?_set]
              split
              · rename_i hin
                subst hin
                have n2 : ((e0 :: es0).map (·.1))[i]? = some (.int kd m) := by rw [List.getElem?_map, h2]; rfl
                rw [n2, if_pos (List.getElem?_eq_some_iff.1 n2).1]
              · rfl
            rw [this]; exact hnd
          · simp only [Nat.zero_add]; exact pe
          · simp only [Nat.zero_add]
            exact hnd.sublist ((List.eraseIdx_sublist _ _).map _)

/-- A map's entries, if it is one. -/
def mapOf (h : H) : AV → Option (List (AV × AV))
  | .nilmap => some []
  | .map id => (match h.get id with | some (.map es) => some es | _ => none)
  | _ => none

def lookupA (T : TypeId → Option TI) (ti : TI) (h : H) (m k : AV) (ok : Bool) : Option AV :=
  match ti.d with
  | .map kt elem => (match T kt, T elem, mapOf h m with
    | some ki, some ei, some es => (match findA T ki k es, ei.zero with
      | some (some (_, v)), _ => (match ok with | true => some (.tup [v, .bool true]) | false => some v)
      | some none, some z => (match ok with | true => some (.tup [z, .bool false]) | false => some z)
      | _, _ => none)
    | _, _, _ => none)
  | _ => none

theorem lookup_ok {P : Program} {g : Gh} {h : H} {w : World} (R : RS g h w) {t : TypeId} {ti : TI} (ht : tiOf P t = some ti) {m k : AV} {u v : Value} (hm : Rel g m u) (hk : Rel g k v) {ok : Bool} {y : AV}
    (hb : lookupA (tiOf P) ti h m k ok = some y) : SOk P (Instr.lookup t u v ok) g h w y h := by
  unfold lookupA at hb
  split at hb
  · rename_i kt elem hd
    split at hb
    · rename_i ki ei es hki hei hes
      obtain ⟨es', hp, ents, hu, hr1, hr2⟩ : ∃ es', MPerm es' es ∧ ∃ ents : Array MapEntry, ((u = .map none ∧ ents = #[]) ∨ ∃ b clock, u = .map (some b) ∧ w.heap[b]? = some (.map ents clock)) ∧ RelL g (es'.map (·.1)) (ents.toList.map (·.key)) ∧ RelL g (es'.map (·.2)) (ents.toList.map (·.val)) := by
        unfold mapOf at hes
        split at hes
        · cases hes; cases hm
          exact ⟨[], .inl rfl, #[], .inl ⟨rfl, rfl⟩, .nil, .nil⟩
        · split at hes <;> cases hes
          rename_i id hid
          cases hm with
          | map _ b o c hφ =>
            obtain ⟨es', hp, ents, clock, h2, h3, h4, _⟩ := R.obj _ _ _ _ _ hid hφ
            exact ⟨es', hp, ents, .inr ⟨b, clock, rfl, h2⟩, h3, h4⟩
        · cases hes
      have key : ∀ (r : Option (Nat × AV)), findA (tiOf P) ki k es = some r → ∃ q, (Instr.findKey kt v ents.toList).run P w = .ok q w ∧ (Instr.checkKey ents.isEmpty 10000 kt v).run P w = .ok () w ∧ (match r, q with
          | none, none => True | some (_, x), some (_, y) => Rel g x y | _, _ => False) := fun r hr => by
        obtain ⟨r', hr', hrr⟩ := mperm_find hp hr
        obtain ⟨hc, q, q1, q2⟩ := findA_ok w hki hk hr1 hr2 hr'
        refine ⟨q, q1, hc _, ?_⟩
        cases r <;> cases r' <;> cases q <;> first | trivial | exact q2.elim | exact hrr.elim | (have e := hrr.1; have q3 := q2.2.1; simp only at e q3 ⊢; rw [e] at q3; exact q3)
      split at hb
      · rename_i j x hf
        obtain ⟨q, q1, q2, q3⟩ := key _ hf
        cases q with
        | none => exact q3.elim
        | some jy =>
          obtain ⟨j', y'⟩ := jy
          have hrun : (Instr.lookup t u v ok).run P w = .ok (if ok then .tuple #[y', .bool true] else y') w := by
            unfold Instr.lookup
            simp only [Sem.run_bind, run_und ht, Result.andThen_ok, hd]
            rcases hu with ⟨rfl, rfl⟩ | ⟨b, clock, rfl, h2⟩
            · simp only [Sem.run_bind, q1, q2, Result.andThen_ok, Sem.run_pure]
            · simp only [Sem.run_bind, getObj, Sem.run, h2, q1, q2, Result.andThen_ok, Sem.run_pure]
          split at hb <;> cases hb
          · exact .pure R hrun (.tup [x, .bool true] [y', .bool true] (.cons _ _ _ _ q3 (.cons _ _ _ _ (.bool _) .nil)))
          · exact .pure R hrun q3
      · rename_i z hf hz
        obtain ⟨q, q1, q2, q3⟩ := key _ hf
        obtain ⟨zv, hzrun, hzr⟩ := run_zero hei w hz g
        cases q with
        | some _ => exact q3.elim
        | none =>
          have hrun : (Instr.lookup t u v ok).run P w = .ok (if ok then .tuple #[zv, .bool false] else zv) w := by
            unfold Instr.lookup
            simp only [Sem.run_bind, run_und ht, Result.andThen_ok, hd]
            rcases hu with ⟨rfl, rfl⟩ | ⟨b, clock, rfl, h2⟩
            · simp only [Sem.run_bind, q1, q2, hzrun, Result.andThen_ok, Sem.run_pure]
            · simp only [Sem.run_bind, getObj, Sem.run, h2, q1, q2, hzrun, Result.andThen_ok, Sem.run_pure]
          split at hb <;> cases hb
          · exact .pure R hrun (.tup [z, .bool false] [zv, .bool false] (.cons _ _ _ _ hzr (.cons _ _ _ _ (.bool _) .nil)))
          · exact .pure R hrun hzr
      · cases hb
    · cases hb
  · cases hb


/-! ### writing a map -/
def mapWith (T : TypeId → Option TI) (ki : TI) (es : List (AV × AV)) (k v : AV) : Option (List (AV × AV)) :=
  match findA T ki k es with
  | some (some (i, _)) => some (es.set i (k, v))
  | some none => some (es ++ [(k, v)])
  | none => none
def mapUpdateA (T : TypeId → Option TI) (ti : TI) (h : H) (m k v : AV) : Option H :=
  match ti.d, m with
  | .map kt _, .map id => (match T kt, h.get id with
    | some ki, some (.map es) => (match mapWith T ki es k v with | some es' => some (h.set id (some (.map es'))) | none => none)
    | _, _ => none)
  | _, _ => none

theorem relL_set {g : Gh} {x : AV} {y : Value} (hx : Rel g x y) : {a : List AV} → {v : List Value} → RelL g a v → ∀ n, RelL g (a.set n x) (v.set n y)
  | _, _, .nil, _ => .nil
  | _, _, .cons a v as vs h t, 0 => .cons x y as vs hx t
  | _, _, .cons a v as vs h t, n + 1 => .cons a v _ _ h (relL_set hx t n)

theorem mapUpdate_ok {P : Program} {g : Gh} {h : H} {w : World} (R : RS g h w) {t : TypeId} {ti : TI} (ht : tiOf P t = some ti) {m k x : AV} {um uk ux : Value} (hm : Rel g m um) (hk : Rel g k uk) (hx : Rel g x ux) {h' : H}
    (hb : mapUpdateA (tiOf P) ti h m k x = some h') : ∃ w', (Instr.mapUpdate t um uk ux).run P w = .ok () w' ∧ Ext g h w g h' w' ∧ RS g h' w' := by
  unfold mapUpdateA at hb
  split at hb
  · rename_i kt elem id hd
    split at hb
    · rename_i ki es hki hid
      split at hb <;> cases hb
      rename_i es' hes
      cases hm with
      | map _ b o c hφ =>
        have hobj := R.obj _ _ _ _ _ hid hφ
        obtain ⟨es0, hp, ents, clock, h2, h3, h4, hst⟩ := hobj
        have hlt : b < w.heap.size := (Array.getElem?_eq_some_iff.1 h2).1
        have fin : ∀ (es1 : List (AV × AV)) (ents' : Array MapEntry) (clock' : Nat), MPerm es1 es' → RelL g (es1.map (·.1)) (ents'.toList.map (·.key)) → RelL g (es1.map (·.2)) (ents'.toList.map (·.val)) → St ents' clock' →
            (Instr.mapUpdate t (.map (some b)) uk ux).run P w = .ok () { w with heap := w.heap.setIfInBounds b (.map ents' clock') } →
            ∃ w', (Instr.mapUpdate t (.map (some b)) uk ux).run P w = .ok () w' ∧ Ext g h w g (h.set id (some (.map es'))) w' ∧ RS g (h.set id (some (.map es'))) w' := fun es1 ents' clock' rp r1 r2 rs hrun => by
          have hfr : ∀ b', b' < w.heap.size → b' ≠ b → (w.heap.setIfInBounds b (.map ents' clock'))[b']? = w.heap[b']? := fun b' _ hne => by rw [Array.getElem?_setIfInBounds]; simp [Ne.symm hne]
          exact ⟨_, hrun, Ext.upd hid hφ (by simp) hfr rfl rfl rfl, R.upd hid hφ hfr ⟨es1, rp, ents', clock', by simp [hlt], r1, r2, rs⟩⟩
        unfold mapWith at hes
        split at hes <;> cases hes
        · rename_i i y hf
          obtain ⟨r', hr', hrr⟩ := mperm_find hp hf
          obtain ⟨hck, q, q1, q2⟩ := findA_ok w hki hk h3 h4 hr'
          cases r' with
          | none => exact hrr.elim
          | some ix =>
          obtain ⟨i0, y0⟩ := ix
          obtain ⟨_, hset, _⟩ := hrr
          cases q with
          | none => exact q2.elim
          | some jy =>
            obtain ⟨j', y'⟩ := jy
            obtain ⟨e1, e2, e4, e, e6, hsty⟩ := q2
            obtain rfl : i0 = j' := e1.symm
            have hel := (List.getElem?_eq_some_iff.1 e6).1
            refine fin _ (ents.modify i0 fun e => { e with key := uk, val := ux }) clock (hset x) ?_ ?_ (hst.modify i0 uk ux) ?_
            · have : (ents.modify i0 fun e => { e with key := uk, val := ux }).toList.map (·.key) = (ents.toList.map (·.key)).set i0 uk := by
                apply List.ext_getElem?
                intro n
                simp only [List.getElem?_map, Array.getElem?_toList, Array.getElem?_modify, List.getElem?_set]
                by_cases hn : i0 = n
                · subst hn; simp at hel; simp [hel]
                · simp [hn]
              rw [this]
              simpa [List.map_set] using relL_set hk h3 i0
            · have : (ents.modify i0 fun e => { e with key := uk, val := ux }).toList.map (·.val) = (ents.toList.map (·.val)).set i0 ux := by
                apply List.ext_getElem?
                intro n
                simp only [List.getElem?_map, Array.getElem?_toList, Array.getElem?_modify, List.getElem?_set]
                by_cases hn : i0 = n
                · subst hn; simp at hel; simp [hel]
                · simp [hn]
              rw [this]
              simpa [List.map_set] using relL_set hx h4 i0
            · have e6' : ents[i0]? = some e := by simpa using e6
              unfold Instr.mapUpdate
              simp only [Sem.run_bind, run_und ht, Result.andThen_ok, hd, getObj, Sem.run, h2, hck, q1, e6', Option.map_some, Option.getD_some, hsty, setObj]
        · rename_i hf
          obtain ⟨r', hr', hrr⟩ := mperm_find hp hf
          obtain ⟨hck, q, q1, q2⟩ := findA_ok w hki hk h3 h4 hr'
          cases r' with
          | some _ => exact hrr.elim
          | none =>
          cases q with
          | some _ => exact q2.elim
          | none =>
            refine fin _ (ents.push { key := uk, val := ux, born := clock }) (clock + 1) (hrr x) ?_ ?_ (hst.push uk ux) ?_
            · simpa using RelL.append (.cons k uk [] [] hk .nil) h3
            · simpa using RelL.append (.cons x ux [] [] hx .nil) h4
            · unfold Instr.mapUpdate
              simp only [Sem.run_bind, run_und ht, Result.andThen_ok, hd, getObj, Sem.run, h2, hck, q1, setObj]
    · cases hb
  · cases hb

def deleteA (T : TypeId → Option TI) (ti : TI) (h : H) (m k : AV) : Option H :=
  match ti.d, m with
  | .map kt _, .map id => (match T kt, h.get id with
    | some ki, some (.map es) => (match findA T ki k es with
      | some (some (i, _)) => some (h.set id (some (.map (es.eraseIdx i))))
      | some none => some (h.set id (some (.map es)))
      | none => none)
    | _, _ => none)
  | _, _ => none
theorem relL_erase {g : Gh} : {a : List AV} → {v : List Value} → RelL g a v → ∀ n, RelL g (a.eraseIdx n) (v.eraseIdx n)
  | _, _, .nil, _ => .nil
  | _, _, .cons a v as vs h t, 0 => t
  | _, _, .cons a v as vs h t, n + 1 => .cons a v _ _ h (relL_erase t n)
theorem map_eraseIdx {α β : Type} (f : α → β) : ∀ (l : List α) (n : Nat), (l.eraseIdx n).map f = (l.map f).eraseIdx n
  | [], _ => rfl
  | _ :: _, 0 => rfl
  | x :: r, n + 1 => by simp [map_eraseIdx f r n]
theorem delete_ok {P : Program} {g : Gh} {h : H} {w : World} (R : RS g h w) {t : TypeId} {ts : Array TypeId} {ty : TypeId} {ti : TI} (ht : tiOf P t = some ti) (h0 : ts[0]? = some t) {m k : AV} {um uk : Value} (hm : Rel g m um) (hk : Rel g k uk) {h' : H}
    (hb : deleteA (tiOf P) ti h m k = some h') : SOk P (Builtin.delete_ ts ty #[um, uk]) g h w undefA h' := by
  have g0 : (#[um, uk] : Array Value)[0]? = some um := rfl
  have g1 : (#[um, uk] : Array Value)[1]? = some uk := rfl
  unfold deleteA at hb
  split at hb
  · rename_i kt elem id hd
    split at hb
    · rename_i ki es hki hid
      cases hm with
      | map _ b o c hφ =>
        have hobj := R.obj _ _ _ _ _ hid hφ
        obtain ⟨es0, hp, ents, clock, h2, h3, h4, hst⟩ := hobj
        have hlt : b < w.heap.size := (Array.getElem?_eq_some_iff.1 h2).1
        have fin : ∀ (es' es1 : List (AV × AV)) (ents' : Array MapEntry), MPerm es1 es' → RelL g (es1.map (·.1)) (ents'.toList.map (·.key)) → RelL g (es1.map (·.2)) (ents'.toList.map (·.val)) → St ents' clock →
            (Builtin.delete_ ts ty #[.map (some b), uk]).run P w = .ok undef { w with heap := w.heap.setIfInBounds b (.map ents' clock) } →
            SOk P (Builtin.delete_ ts ty #[.map (some b), uk]) g h w undefA (h.set id (some (.map es'))) := fun es' es1 ents' rp r1 r2 rs hrun => by
          have hfr : ∀ b', b' < w.heap.size → b' ≠ b → (w.heap.setIfInBounds b (.map ents' clock))[b']? = w.heap[b']? := fun b' _ hne => by rw [Array.getElem?_setIfInBounds]; simp [Ne.symm hne]
          exact ⟨_, _, g, hrun, Ext.upd hid hφ (by simp) hfr rfl rfl rfl, R.upd hid hφ hfr ⟨es1, rp, ents', clock, by simp [hlt], r1, r2, rs⟩, Rel.undef g⟩
        split at hb
        · rename_i i y hf
          cases hb
          obtain ⟨r', hr', hrr⟩ := mperm_find hp hf
          obtain ⟨hck, q, q1, q2⟩ := findA_ok w hki hk h3 h4 hr'
          cases r' with
          | none => exact hrr.elim
          | some ix =>
          obtain ⟨i0, y0⟩ := ix
          obtain ⟨_, _, hera⟩ := hrr
          cases q with
          | none => exact q2.elim
          | some jy =>
            obtain ⟨j', y'⟩ := jy
            obtain ⟨e1, _⟩ := q2
            obtain rfl : i0 = j' := e1.symm
            refine fin _ _ (ents.eraseIdxIfInBounds i0) hera ?_ ?_ (hst.erase i0) ?_
            · rw [Array.toList_eraseIdxIfInBounds, map_eraseIdx, map_eraseIdx]; exact relL_erase h3 i0
            · rw [Array.toList_eraseIdxIfInBounds, map_eraseIdx, map_eraseIdx]; exact relL_erase h4 i0
            · unfold Builtin.delete_
              simp only [h0, g0, g1, Sem.run_bind, run_und ht, Result.andThen_ok, hd, getObj, Sem.run, h2, hck, q1, setObj]
              rfl
        · rename_i hf
          cases hb
          obtain ⟨r', hr', hrr⟩ := mperm_find hp hf
          obtain ⟨hck, q, q1, q2⟩ := findA_ok w hki hk h3 h4 hr'
          cases r' with
          | some _ => exact hrr.elim
          | none =>
          cases q with
          | some _ => exact q2.elim
          | none =>
            refine fin _ _ ents hp h3 h4 hst ?_
            unfold Builtin.delete_
            simp only [h0, g0, g1, Sem.run_bind, run_und ht, Result.andThen_ok, hd, getObj, Sem.run, h2, hck, q1, setObj]
            rfl
        · cases hb
    · cases hb
  · cases hb

def makeMapA (T : TypeId → Option TI) (t : TypeId) (r : Option AV) (h : H) : Option (AV × H) :=
  match h.room, r with
  | true, none => some (.map h.next, h.new (.map []))
  | true, some n => (match T t, natA n with
    | some ti, some _ => (match ti.d with | .map _ _ => some (.map h.next, h.new (.map [])) | _ => none)
    | _, _ => none)
  | _, _ => none
theorem makeMap_ok {P : Program} {g : Gh} {h : H} {w : World} (R : RS g h w) {t : TypeId} {r : Option AV} {u : Option Value} (hr : RelO g r u) {y : AV} {h' : H} (hb : makeMapA (tiOf P) t r h = some (y, h')) :
    SOk P (Instr.makeMap t u) g h w y h' := by
  have fin : h.room = true → (Instr.makeMap t u).run P w = .ok (.map (some w.heap.size)) (w.alloc (.map #[] 0)) → SOk P (Instr.makeMap t u) g h w (.map h.next) (h.new (.map [])) := fun hroom hrun => by
    have hfr : ∀ b', b' < w.heap.size → (w.alloc (.map #[] 0)).heap[b']? = w.heap[b']? := fun b' hb => Go.RowKit.Below.heap_alloc w _ b' hb
    refine ⟨_, _, g.add h.next (w.heap.size, 0, 0), hrun, Ext.alloc R (by simp) hfr rfl rfl rfl, R.alloc hroom hfr ⟨[], .inl rfl, #[], 0, by show ((w.heap.push _)[w.heap.size]?) = _; simp, .nil, .nil, St.nil _⟩, .map _ _ 0 0 (by simp [Gh.add])⟩
  unfold makeMapA at hb
  split at hb
  · rename_i hroom
    cases hb; cases hr
    exact fin hroom (by simp [Instr.makeMap])
  · rename_i n hroom
    split at hb
    · rename_i ti m ht hm
      split at hb <;> cases hb
      rename_i hd
      cases hr with
      | some _ v hr =>
        obtain ⟨k, rfl⟩ := natA_rel hr hm
        exact fin hroom (by simp [Instr.makeMap, run_und ht, hd, asInt, asIntOf])
    · cases hb
  · cases hb

end
end Go.Ab
/-! Conversions, interfaces, and all operations together. -/
namespace Go.Ab
open Go
noncomputable section

/-- The bytes of cells. -/
def bytesA : List AV → Option (List UInt8)
  | [] => some []
  | .int .u8 n :: r => (match bytesA r with | some l => some (UInt8.ofNat n.toNat :: l) | none => none)
  | _ :: _ => none

theorem bytes_rel {g : Gh} : ∀ (cs : List AV) (vs : List Value) (l : List UInt8), RelL g cs vs → bytesA cs = some l → ∃ ns : List Int, vs = ns.map (Value.int .u8) ∧ l = ns.map (fun n => UInt8.ofNat n.toNat)
  | [], _, l, hr, hb => by
    cases hr; cases hb; exact ⟨[], rfl, rfl⟩
  | a :: cs, _, l, hr, hb => by
    cases hr with
    | cons _ v _ vs h t =>
    unfold bytesA at hb
    split at hb
    · rename_i e; cases e
    · rename_i n r e
      cases e
      split at hb <;> cases hb
      rename_i l' hl
      cases h
      obtain ⟨ns, e1, e2⟩ := bytes_rel cs vs l' t hl
      exact ⟨n :: ns, by rw [e1]; rfl, by rw [e2]; rfl⟩
    · cases hb
theorem bytes_fold : ∀ (ns : List Int) (s : ByteArray), ns.foldl (fun r n => r.push (UInt8.ofNat n.toNat)) s = ⟨s.data ++ (ns.map (fun n => UInt8.ofNat n.toNat)).toArray⟩
  | [], s => by simp
  | n :: r, s => by
    rw [List.foldl_cons, bytes_fold r]
    apply ByteArray.ext
    apply Array.ext'
    simp [ByteArray.push]

def convA (T : TypeId → Option TI) (s d : TypeId) (x : AV) (h : H) : Option (AV × H) :=
  match T s, T d with
  | some si, some di => (match di.d, x with
    | .int k, .int _ n => some (.int k (k.wrap n), h)
    | .string, .str l => some (.str l, h)
    | .slice e, .str l => (match si.d, T e, h.room with
      | .string, some ei, true => (match ei.d with
        | .int .u8 => some (.sl 1 h.next 0 l.length none, h.new (.cells (l.map fun b => .int .u8 (b.toNat : Int))))
        | _ => none)
      | _, _, _ => none)
    | .slice e, .sl E id off len cap => (match si.d, T e, Nat.beq s d, h.get id with
      | .slice _, some ei, true, some (.cells cs) => (match ei.d, len with | .int .u8, _ + 1 => some (.sl E id off len cap, h.set id (some (.cells cs))) | _, _ => none)
      | _, _, _, _ => none)
    | .string, .nilsl => (match si.d with
      | .slice e => (match T e with | some ei => (match ei.d with | .int .u8 => some (.str [], h) | _ => none) | none => none)
      | _ => none)
    | .string, .sl E id off len cap => (match si.d with
      | .slice e => (match T e with
        | some ei => (match ei.d, srcA h 1 (.sl E id off len cap) with
          | .int .u8, some (cs, _) => (match bytesA cs with | some l => some (.str l, h) | none => none)
          | _, _ => none)
        | none => none)
      | _ => none)
    | .string, .vsl E vl => (match si.d with
      | .slice e => (match T e with
        | some ei => (match ei.d, srcA h 1 (.vsl E vl) with
          | .int .u8, some (cs, _) => (match bytesA cs with | some l => some (.str l, h) | none => none)
          | _, _ => none)
        | none => none)
      | _ => none)
    | _, _ => none)
  | _, _ => none


theorem shape_of {w : World} {b : Nat} {arr : Array Value} {T : TypeId} {fz : Nat × Nat} (h : w.heap[b]? = some (.cells arr T fz)) : w.shape? b = some (T, arr.size) := by simp [World.shape?, h]

theorem heap_freeze (w : World) (a : Addr) (b : Nat) : (w.freeze a 1).heap[b]? = if b = a.block then (w.heap[b]?).map (fun | .cells c elem (lo, hi) => .cells c elem (if lo == hi then (a.off, a.off + 1) else (min lo a.off, max hi (a.off + 1))) | o => o) else w.heap[b]? := by
  unfold World.freeze
  simp only [Nat.one_ne_zero, if_false, Array.getElem?_modify]
  by_cases h : a.block = b
  · subst h; simp; rfl
  · simp [h, Ne.symm h]

theorem conv_ok {P : Program} {g : Gh} {h : H} {w : World} (R : RS g h w) {s d : TypeId} {x : AV} {u : Value} (hx : Rel g x u) {y : AV} {h' : H} (hb : convA (tiOf P) s d x h = some (y, h')) : SOk P (convert s d u) g h w y h' := by
  unfold convA at hb
  split at hb
  · rename_i si di hs hd
    have bytes : ∀ {e : TypeId} {ei : TI} {cs : List AV} {m : Nat} {l : List UInt8}, si.d = .slice e → di.d = .string → tiOf P e = some ei → ei.d = .int .u8 → srcA h 1 x = some (cs, m) → bytesA cs = some l → (∃ a len cap, u = .slice (some a) len cap) →
        SOk P (convert s d u) g h w (.str l) h := fun {e ei cs m l} hsd hdd he hei hsrc hbb hu => by
      obtain ⟨a, len, cap, rfl⟩ := hu
      obtain ⟨vs, a1, a2, a3, a4, a5⟩ := src_ok (P := P) R hx hsrc
      have hm := a5 _ _ _ rfl
      subst hm
      have hl := (a1 w rfl).2
      simp only [Builtin.firstCells, Nat.mul_one] at hl
      refine .pure R (v := .string ⟨l.toArray⟩) ?_ (.str _)
      obtain ⟨ns, e1, e2⟩ := bytes_rel cs vs l a2 hbb
      rw [e1] at hl
      have hloop := run_bytesToString (P := P) w a len cap ns hl
      rw [bytes_fold, ← e2] at hloop
      unfold convert
      simp only [Sem.run_bind, run_und hs, run_und hd, Result.andThen_ok, hsd, hdd, run_und he, hei, hloop]
      simp
    split at hb
    · rename_i k _ n hdd
      cases hb; cases hx
      refine .pure R (v := .int k (k.wrap n)) ?_ (.int _ _)
      unfold convert
      simp only [Sem.run_bind, run_und hs, run_und hd, Result.andThen_ok, hdd]
      cases si.d <;> rfl
    · rename_i l hdd
      cases hb; cases hx
      refine .pure R (v := .string ⟨l.toArray⟩) ?_ (.str _)
      unfold convert
      simp only [Sem.run_bind, run_und hs, run_und hd, Result.andThen_ok, hdd]
      cases si.d <;> rfl
    · rename_i e l hdd
      split at hb
      · rename_i ei hsd he hroom
        split at hb <;> cases hb
        rename_i hei
        cases hx
        have R' : RS g h w.drew := R.of_heap rfl
        obtain ⟨cap, hcap⟩ : ∃ cap, cap = (Question.appendCap l.length 0 e).cut (w.tape w.drawn (.appendCap l.length 0 e)) := ⟨_, rfl⟩
        have hle : l.length ≤ cap := by rw [hcap]; simp [Question.cut]
        have hsc : ∀ y ∈ l.map (fun b => AV.int .u8 (b.toNat : Int)), y.sc = true := fun y hy => by obtain ⟨b, _, rfl⟩ := List.mem_map.1 hy; rfl
        let arr : Array Value := ((l.map (fun (b : UInt8) => Value.int .u8 (b.toNat : Int))) ++ List.replicate (cap - l.length) (Value.int .u8 0)).toArray
        have harr : arr.size = cap := by simp [arr]; omega
        let w1 := w.drew.alloc (.cells arr e)
        let w2 := w1.freeze ⟨w.heap.size, cap, none⟩ 1
        have hw1 : w1.heap[w.heap.size]? = some (.cells arr e (0, 0)) := by show ((w.heap.push _)[w.heap.size]?) = _; simp
        have hw2 : w2.heap[w.heap.size]? = some (.cells arr e (cap, cap + 1)) := by
          show (w1.freeze ⟨w.heap.size, cap, none⟩ 1).heap[w.heap.size]? = _
          rw [heap_freeze, if_pos rfl, hw1]; rfl
        have hsz2 : w2.heap.size = w.heap.size + 1 := by
          show (w1.freeze ⟨w.heap.size, cap, none⟩ 1).heap.size = _
          simp [World.freeze, w1]
        have hfr : ∀ b', b' < w.heap.size → w2.heap[b']? = w.heap[b']? := fun b' hb => by
          show (w1.freeze ⟨w.heap.size, cap, none⟩ 1).heap[b']? = _
          rw [heap_freeze, if_neg (by show ¬ b' = w.heap.size; omega)]
          exact Go.RowKit.Below.heap_alloc w _ b' hb
        have hf := R.fresh h.next (Nat.le_refl _)
        refine ⟨.slice (some ⟨w.heap.size, 0, none⟩) l.length cap, w2, g.add h.next (w.heap.size, 0, cap), ?_, Ext.alloc R hsz2 hfr rfl rfl rfl, R.alloc hroom hfr ⟨hsc, arr, e, cap, cap + 1, l.map (fun (b : UInt8) => Value.int .u8 (b.toNat : Int)), hw2, by omega, .inr (by omega),
          (relL_bytes g l).mono (Gh.le_add hf.1), by simp; exact hle, fun i hi => ?_⟩, ?_⟩
        · unfold convert
          have hb0 : (⟨l.toArray⟩ : ByteArray).size = l.length := by simp [ByteArray.size]
          have harr' : ((⟨l.toArray⟩ : ByteArray).data.map (fun (b : UInt8) => Value.int .u8 (b.toNat : Int)) ++ Array.replicate (cap - l.length) (.int .u8 0)) = arr := by
            apply Array.ext'; simp [arr]
          simp only [Sem.run_bind, run_und hs, run_und hd, Result.andThen_ok, hsd, hdd, run_und he, hei, Conv.stringToBytes, hb0, run_choose, Question.forced, Bool.false_eq_true, if_false, ← hcap, World.drew_eq, newRow, run_newObj, World.alloc_eq, Sem.run_pure, harr', markStringish, run_shape]
          have hsh := shape_of hw1
          have hsh' : (w.drew.alloc (.cells arr e)).shape? w.drew.heap.size = some (e, cap) := by rw [← harr]; exact hsh
          simp only [hsh', run_freeze, Result.andThen_ok]
          rfl
        · have hi' : i < l.length := by simpa using hi
          simp [arr, List.getElem?_append, hi']
        · refine .sl 1 _ 0 _ none _ _ cap cap _ _ (by simp [Gh.add]) (by simp) hle (.inr ⟨rfl, rfl⟩)
      · cases hb
    · rename_i e E id off len cap hdd
      split at hb
      · rename_i q ei cs hsd he hsdd hid
        split at hb <;> cases hb
        rename_i m hei
        have hEq := (beq_iff _ _).1 hsdd
        subst hEq
        cases hx with
        | sl _ _ _ _ _ b o c k b' o' hφ hk hlk ha =>
        rcases ha with ha | ⟨eb, eo⟩
        · omega
        rw [eb, eo]
        have hc1 := R.obj _ _ _ _ _ hid hφ
        obtain ⟨hsc, arr, T, lo, hi, us, h1, h2, h3, h4, h5, h6⟩ := hc1
        have hfr : ∀ b', b' < w.heap.size → b' ≠ b → (w.freeze ⟨b, arr.size, none⟩ 1).heap[b']? = w.heap[b']? := fun b' _ hne => by rw [heap_freeze, if_neg hne]
        have hsz : (w.freeze ⟨b, arr.size, none⟩ 1).heap.size = w.heap.size := by simp [World.freeze]
        refine ⟨.slice (some ⟨b, o + off, none⟩) (m + 1) k, w.freeze ⟨b, arr.size, none⟩ 1, g, ?_, Ext.upd hid hφ (by rw [hsz]; exact Nat.le_refl _) hfr (by simp [World.freeze]) (by simp [World.freeze]) (by simp [World.freeze]), R.upd hid hφ hfr ?_, .sl _ _ _ _ _ b o c k _ _ hφ hk hlk (.inr ⟨rfl, rfl⟩)⟩
        · unfold convert
          have hsd' : si.d = .slice e := by rw [hs] at hd; cases hd; exact hdd
          simp only [Sem.run_bind, run_und hs, run_und hd, Result.andThen_ok, hsd', hdd, run_und he, hei, beq_self_eq_true, markStringish, run_shape, shape_of h1, run_freeze, Sem.run_pure]
        · refine ⟨hsc, arr, T, (if lo == hi then (arr.size, arr.size + 1) else (min lo arr.size, max hi (arr.size + 1))).1, (if lo == hi then (arr.size, arr.size + 1) else (min lo arr.size, max hi (arr.size + 1))).2, us, ?_, h2, ?_, h4, h5, h6⟩
          · rw [heap_freeze, if_pos rfl, h1]; rfl
          · right
            split
            · exact Nat.le_refl _
            · rename_i hne
              rcases h3 with e | e
              · simp [e] at hne
              · simp only; omega
      · cases hb
    · rename_i hdd
      split at hb
      · rename_i e hsd
        split at hb
        · rename_i ei he
          split at hb <;> cases hb
          rename_i hei
          cases hx
          refine .pure R (v := .string ⟨([] : List UInt8).toArray⟩) ?_ (.str _)
          unfold convert
          simp only [Sem.run_bind, run_und hs, run_und hd, Result.andThen_ok, hsd, hdd, run_und he, hei, Conv.bytesToString]
          rfl
        · cases hb
      · cases hb
    · rename_i E id off len cap hdd
      split at hb
      · rename_i e hsd
        split at hb
        · rename_i ei he
          split at hb
          · rename_i cs m hei hsrc
            split at hb <;> cases hb
            rename_i hbb
            exact bytes hsd hdd he hei hsrc hbb (by cases hx; exact ⟨_, _, _, rfl⟩)
          · cases hb
        · cases hb
      · cases hb
    · rename_i E vl hdd
      split at hb
      · rename_i e hsd
        split at hb
        · rename_i ei he
          split at hb
          · rename_i cs m hei hsrc
            split at hb <;> cases hb
            rename_i hbb
            exact bytes hsd hdd he hei hsrc hbb (by cases hx; exact ⟨_, _, _, rfl⟩)
          · cases hb
        · cases hb
      · cases hb
    · cases hb
  · cases hb


/-! ### interfaces -/
def assertA (T : TypeId → Option TI) (x : AV) (t : TypeId) (ok : Bool) : Option AV :=
  match T t with
  | none => none
  | some ti => match ti.d with
    | .interface _ => none
    | _ => match x with
      | .iface u v => (match Nat.beq u t, ok, ti.zero with
        | true, true, _ => some (.tup [v, .bool true])
        | true, false, _ => some v
        | false, true, some z => some (.tup [z, .bool false])
        | _, _, _ => none)
      | .niliface => (match ok, ti.zero with | true, some z => some (.tup [z, .bool false]) | _, _ => none)
      | _ => none
theorem assert_ok {P : Program} {g : Gh} {h : H} {w : World} (R : RS g h w) {xT t : TypeId} {x : AV} {u : Value} (hx : Rel g x u) {ok : Bool} {y : AV} (hb : assertA (tiOf P) x t ok = some y) : SOk P (Instr.typeAssert u xT t ok) g h w y h := by
  unfold assertA at hb
  split at hb
  · cases hb
  · rename_i ti ht
    split at hb
    · cases hb
    · rename_i hd
      have hnot : ∀ ms, ti.d ≠ .interface ms := fun ms e => hd ms e
      split at hb
      · rename_i q v
        cases hx with
        | iface _ _ vv hv =>
        split at hb
        · rename_i hq
          cases hb
          have := (beq_iff _ _).1 hq
          subst this
          refine .pure R (v := .tuple #[vv, .bool true]) ?_ (.tup [v, .bool true] [vv, .bool true] (.cons _ _ _ _ hv (.cons _ _ _ _ (.bool _) .nil)))
          unfold Instr.typeAssert
          simp only [Sem.run_bind, run_und ht, Result.andThen_ok]
          cases hdd : ti.d <;> first | (exact absurd hdd (hnot _)) | simp
        · rename_i hq
          cases hb
          have := (beq_iff _ _).1 hq
          subst this
          refine .pure R (v := vv) ?_ hv
          unfold Instr.typeAssert
          simp only [Sem.run_bind, run_und ht, Result.andThen_ok]
          cases hdd : ti.d <;> first | (exact absurd hdd (hnot _)) | simp
        · rename_i z hq hz
          cases hb
          have hne : ¬ q = t := fun e => by rw [(beq_iff _ _).2 e] at hq; cases hq
          obtain ⟨zv, hrun, hzr⟩ := run_zero ht w hz g
          refine .pure R (v := .tuple #[zv, .bool false]) ?_ (.tup [z, .bool false] [zv, .bool false] (.cons _ _ _ _ hzr (.cons _ _ _ _ (.bool _) .nil)))
          unfold Instr.typeAssert
          simp only [Sem.run_bind, run_und ht, Result.andThen_ok]
          cases hdd : ti.d <;> first | (exact absurd hdd (hnot _)) | simp [hne, hrun]
        · cases hb
      · split at hb <;> cases hb
        rename_i z hz
        cases hx
        obtain ⟨zv, hrun, hzr⟩ := run_zero ht w hz g
        refine .pure R (v := .tuple #[zv, .bool false]) ?_ (.tup [z, .bool false] [zv, .bool false] (.cons _ _ _ _ hzr (.cons _ _ _ _ (.bool _) .nil)))
        unfold Instr.typeAssert
        simp only [Sem.run_bind, run_und ht, Result.andThen_ok]
        cases hdd : ti.d <;> first | (exact absurd hdd (hnot _)) | simp [hrun]
      · cases hb

def isIface : TypeDesc → Bool | .interface _ => true | _ => false

def capA (ti : TI) (x : AV) : Option Nat :=
  match ti.d with
  | .slice _ => (match x with | .nilsl => some 0 | .sl _ _ _ _ (some k) => some k | _ => none)
  | _ => none
theorem cap_ok {P : Program} {g : Gh} {h : H} {w : World} (R : RS g h w) {t : TypeId} {ts : Array TypeId} {ty : TypeId} {ti : TI} (ht : tiOf P t = some ti) (h0 : ts[0]? = some t) {x : AV} {u : Value} (hx : Rel g x u) {n : Nat}
    (hb : capA ti x = some n) : SOk P (Builtin.cap_ ts ty #[u]) g h w (.int .i64 (n : Int)) h := by
  refine .pure R (v := .int .i64 (n : Int)) ?_ (.int _ _)
  have g0 : (#[u] : Array Value)[0]? = some u := rfl
  unfold Builtin.cap_
  simp only [h0, g0, Sem.run_bind, run_und ht, Result.andThen_ok]
  unfold capA at hb
  split at hb
  · rename_i e hd
    split at hb
    · cases hb; cases hx; simp [hd, goInt]
    · cases hb
      cases hx with
      | sl _ _ _ _ _ b o c k b' o' hφ hk hl ha =>
        simp only at hk
        subst hk
        simp [hd, goInt]
    · cases hb
  · cases hb

/-- What a builtin yields. -/
def builtinA (T : TypeId → Option TI) (b : Builtin) (ts : Array TypeId) (args : List AV) (h : H) : Option (AV × H) :=
  match ts[0]? with
  | none => none
  | some t => match T t with
    | none => none
    | some ti => match b, args with
      | .len, [x] => (match lenA T ti h x with | some n => some (.int .i64 (n : Int), h) | none => none)
      | .cap, [x] => (match capA ti x with | some n => some (.int .i64 (n : Int), h) | none => none)
      | .append, [s, x] => appendA T ti ts[1]? s x h
      | .copy, [d, s] => (match copyA T ti d s h with | some (n, h) => some (.int .i64 (n : Int), h) | none => none)
      | .clear, [x] => (match clearA T ti x h with | some h => some (undefA, h) | none => none)
      | .delete, [m, k] => (match deleteA T ti h m k with | some h => some (undefA, h) | none => none)
      | .max, [.int k a, .int _ b] => some (.int k (match iLe b a with | true => a | false => b), h)
      | .min, [.int k a, .int _ b] => some (.int k (match iLe a b with | true => a | false => b), h)
      | _, _ => none

theorem relL_two {g : Gh} {a b : AV} {vs : List Value} (h : RelL g [a, b] vs) : ∃ u v, vs = [u, v] ∧ Rel g a u ∧ Rel g b v := by
  cases h with
  | cons _ u _ us h1 h2 => cases h2 with
    | cons _ v _ vs h3 h4 => cases h4; exact ⟨u, v, rfl, h1, h3⟩
theorem relL_one {g : Gh} {a : AV} {vs : List Value} (h : RelL g [a] vs) : ∃ u, vs = [u] ∧ Rel g a u := by
  cases h with
  | cons _ u _ us h1 h2 => cases h2; exact ⟨u, rfl, h1⟩

def NOk (P : Program) (s : Sem Next) (g : Gh) (h : H) (w : World) (x : AV) (h' : H) : Prop :=
  ∃ v w' g', (s.run P w = .ok (.value v) w' ∨ (s.run P w = .ok .skip w' ∧ v = undef)) ∧ Ext g h w g' h' w' ∧ RS g' h' w' ∧ Rel g' x v
theorem NOk.of {P : Program} {s : Sem Value} {g : Gh} {h : H} {w : World} {x : AV} {h' : H} (hs : SOk P s g h w x h') : NOk P (do pure (.value (← s))) g h w x h' := by
  obtain ⟨v, w', g', h1, h2, h3, h4⟩ := hs
  exact ⟨v, w', g', .inl (by simp [h1]), h2, h3, h4⟩
theorem NOk.unit {P : Program} {s : Sem Unit} {g : Gh} {h : H} {w : World} {h' : H} (hs : ∃ w', s.run P w = .ok () w' ∧ Ext g h w g h' w' ∧ RS g h' w') : NOk P (do s; pure .skip) g h w undefA h' := by
  obtain ⟨w', h1, h2, h3⟩ := hs
  exact ⟨undef, w', g, .inr ⟨by simp [h1], rfl⟩, h2, h3, Rel.undef g⟩

theorem builtin_ok {P : Program} {g : Gh} {h : H} {w : World} (R : RS g h w) {b : Builtin} {ts : Array TypeId} {ty : TypeId} {consts : Array Bool} {args : List AV} {vs : List Value} (hr : RelL g args vs) {y : AV} {h' : H}
    (hb : builtinA (tiOf P) b ts args h = some (y, h')) : NOk P (builtin b ts ty consts vs.toArray) g h w y h' := by
  unfold builtinA at hb
  split at hb
  · cases hb
  · rename_i t h0
    split at hb
    · cases hb
    · rename_i ti ht
      split at hb
      · split at hb <;> cases hb
        rename_i n hn
        obtain ⟨u, rfl, h1⟩ := relL_one hr
        exact NOk.of (len_ok R ht h0 h1 hn)
      · split at hb <;> cases hb
        rename_i n hn
        obtain ⟨u, rfl, h1⟩ := relL_one hr
        exact NOk.of (cap_ok R ht h0 h1 hn)
      · obtain ⟨u, v, rfl, h1, h2⟩ := relL_two hr
        exact NOk.of (append_ok R ht h0 h1 h2 hb)
      · split at hb <;> cases hb
        rename_i n h2' hn
        obtain ⟨u, v, rfl, h1, h2⟩ := relL_two hr
        exact NOk.of (copy_ok R ht h0 h1 h2 hn)
      · split at hb <;> cases hb
        rename_i h2' hn
        obtain ⟨u, rfl, h1⟩ := relL_one hr
        exact NOk.of (clear_ok R ht h0 h1 hn)
      · split at hb <;> cases hb
        rename_i h2' hn
        obtain ⟨u, v, rfl, h1, h2⟩ := relL_two hr
        exact NOk.of (delete_ok R ht h0 h1 h2 hn)
      · rename_i k a k' b
        cases hb
        obtain ⟨u, v, rfl, h1, h2⟩ := relL_two hr
        cases h1; cases h2
        refine NOk.of (.pure R (v := .int k (if b > a then b else a)) ?_ ?_)
        · simp [Builtin.max_, Builtin.max2]
        · cases e : iLe b a with
          | true => have := (iLe_iff _ _).1 e; rw [if_neg (by omega)]; exact .int _ _
          | false =>
            have : ¬ b ≤ a := fun h => by rw [(iLe_iff _ _).2 h] at e; cases e
            rw [if_pos (by omega)]; exact .int _ _
      · rename_i k a k' b
        cases hb
        obtain ⟨u, v, rfl, h1, h2⟩ := relL_two hr
        cases h1; cases h2
        refine NOk.of (.pure R (v := .int k (if b < a then b else a)) ?_ ?_)
        · simp [Builtin.min_, Builtin.min2]
        · cases e : iLe a b with
          | true => have := (iLe_iff _ _).1 e; rw [if_neg (by omega)]; exact .int _ _
          | false =>
            have : ¬ a ≤ b := fun h => by rw [(iLe_iff _ _).2 h] at e; cases e
            rw [if_pos (by omega)]; exact .int _ _
      · cases hb

def mapO (e : Operand → AV) : Option Operand → Option AV | none => none | some x => some (e x)

def aPick (T : TypeId → Option TI) (e : Operand → AV) (h : H) (c : Operand) (a : Operand) (b : Operand) : Option (AV × H) :=
  (match e c with | .bool true => some (e a, h) | .bool false => some (e b, h) | _ => none)

def aAlloc (T : TypeId → Option TI) (e : Operand → AV) (h : H) (t : TypeId) : Option (AV × H) :=
  (match T t with | some ti => (match ti.zero with | some z => boxA h z | none => none) | none => none)

def aBuild (T : TypeId → Option TI) (e : Operand → AV) (h : H) (t : TypeId) (ps : Array (Nat × Operand)) : Option (AV × H) :=
  (match T t with | some ti => (match buildA T ti (ps.toList.map fun (i, x) => (i, e x)) with | some y => some (y, h) | none => none) | none => none)

def aBuildSlice (T : TypeId → Option TI) (e : Operand → AV) (h : H) (t : TypeId) (n : Nat) (ps : Array (Nat × Operand)) : Option (AV × H) :=
  (match T t with | some ti => buildSliceA T ti n (ps.toList.map fun (i, x) => (i, e x)) h | none => none)

def aLoad (T : TypeId → Option TI) (e : Operand → AV) (h : H) (t : TypeId) (x : Operand) : Option (AV × H) :=
  (match T t, cellsOf h (e x) with | some ti, some (cs, off) => (match readA ti cs off with | some y => some (y, h) | none => none) | _, _ => none)

def aStore (T : TypeId → Option TI) (e : Operand → AV) (h : H) (t : TypeId) (x : Operand) (v : Operand) : Option (AV × H) :=
  (match T t, e x, e v with
    | some ti, .ptr id off, v => (match h.get id with
      | some (.cells cs) => (match Nat.beq v.cells.length ti.size, allSc v.cells, fits cs off v.cells.length with
        | true, true, true => some (undefA, h.set id (some (.cells (lput cs off v.cells))))
        | _, _, _ => none)
      | _ => none)
    | _, _, _ => none)

def aNilCheck (T : TypeId → Option TI) (e : Operand → AV) (h : H) (x : Operand) : Option (AV × H) :=
  (match e x with | .ptr i o => some (.ptr i o, h) | .iptr cs o => some (.iptr cs o, h) | .func (.func f) a b => some (.func (.func f) a b, h) | _ => none)

/-- '==' of structs and arrays too. -/
def binG (T : TypeId → Option TI) (ti : TI) (op : BinOp) (x y : AV) : Option AV :=
  match x with
  | .agg xs => (match y with
    | .agg ys => (match op, eqAgg T ti xs ys with
      | .eql, some r => some (.bool r)
      | .neq, some r => some (.bool (!r))
      | _, _ => none)
    | _ => none)
  | x => binA ti.d op x y
theorem binG_ok {P : Program} {g : Gh} (w : World) {t : TypeId} {ti : TI} (ht : tiOf P t = some ti) {op : BinOp} {x y : AV} {u v : Value} {X Y : Operand} (hx : Rel g x u) (hy : Rel g y v) {z : AV} (h : binG (tiOf P) ti op x y = some z) :
    (eqGuard op t X Y u v).run P w = .ok () w ∧ ∃ q, (binOp op t u v).run P w = .ok q w ∧ Rel g z q := by
  by_cases hagg : ∃ xs, x = .agg xs
  · obtain ⟨xs, rfl⟩ := hagg
    unfold binG at h
    simp only at h
    split at h
    · rename_i ys
      cases hx with
      | agg _ us sx hx =>
      cases hy with
      | agg _ vs sy hy =>
      split at h
      · rename_i r hr
        cases h
        obtain ⟨h1, h2⟩ := eqAgg_ok w sx sy hx hy 9998 ht hr
        exact ⟨run_eqGuard_agg w _ _ _ _ _ _ h1, _, by rw [run_eql_struct, h2]; rfl, .bool _⟩
      · rename_i r hr
        cases h
        obtain ⟨h1, h2⟩ := eqAgg_ok w sx sy hx hy 9998 ht hr
        exact ⟨run_eqGuard_agg w _ _ _ _ _ _ h1, _, by rw [run_neq_struct, h2]; rfl, .bool _⟩
      · cases h
    · cases h
  · have e0 : binG (tiOf P) ti op x y = binA ti.d op x y := by
      cases x <;> first | rfl | exact absurd ⟨_, rfl⟩ hagg
    rw [e0] at h
    obtain ⟨i, _, hund, _⟩ := tiOf_spec ht
    exact ⟨run_guard (P := P) w (t := t) (X := X) (Y := Y) hx hy h, run_binA (P := P) w hund hx hy h⟩

def isConst : Operand → Bool | .const _ => true | _ => false
/-- Two nil values of an interface's type, one of them written out. -/
def nilA (d : TypeDesc) (op : BinOp) (X Y : Operand) (x y : AV) : Option AV :=
  match isConst X || isConst Y with
  | true => (match d, x, y with
    | .interface _, .niliface, .niliface => (match op with | .eql => some (.bool true) | .neq => some (.bool false) | _ => none)
    | _, _, _ => none)
  | false => none
theorem nilA_ok {P : Program} {g : Gh} (w : World) {t : TypeId} {ti : TI} (ht : tiOf P t = some ti) {op : BinOp} {x y : AV} {u v : Value} {X Y : Operand} (hx : Rel g x u) (hy : Rel g y v) {z : AV} (h : nilA ti.d op X Y x y = some z) :
    (eqGuard op t X Y u v).run P w = .ok () w ∧ ∃ q, (binOp op t u v).run P w = .ok q w ∧ Rel g z q := by
  unfold nilA at h
  split at h
  · rename_i hc
    split at h
    · rename_i ms hd
      cases hx; cases hy
      obtain ⟨i, _, hund, _⟩ := tiOf_spec ht
      rw [hd] at hund
      have hg : ∀ op, (eqGuard op t X Y .nilIface .nilIface).run P w = .ok () w := fun op => by
        cases X <;> cases Y <;> first | (cases hc; done) | (cases op <;> rfl)
      have he' : ∀ n, (Op.equalIn (n + 1) t .nilIface .nilIface).run P w = .ok true w := fun n => by
        unfold Op.equalIn
        simp only [underlying, hund, Sem.run_bind, run_program, Result.andThen_ok, Sem.run_pure]
      have he : (Op.equal t .nilIface .nilIface).run P w = .ok true w := he' 9999
      split at h <;> cases h
      · exact ⟨hg _, .bool true, by simp only [binOp, Sem.run_bind, he, Result.andThen_ok, Sem.run_pure], .bool _⟩
      · exact ⟨hg _, .bool false, by simp only [binOp, Sem.run_bind, he, Result.andThen_ok, Sem.run_pure, Bool.not_true], .bool _⟩
    · cases h
  · cases h

def aBinOp (T : TypeId → Option TI) (e : Operand → AV) (h : H) (op : BinOp) (t : TypeId) (x : Operand) (y : Operand) : Option (AV × H) :=
  (match T t with | some ti => (match binG T ti op (e x) (e y) with | some z => some (z, h) | none => (match nilA ti.d op x y (e x) (e y) with | some z => some (z, h) | none => none)) | none => none)

def aUnOp (T : TypeId → Option TI) (e : Operand → AV) (h : H) (op : UnOp) (x : Operand) : Option (AV × H) :=
  (match unA op (e x) with | some z => some (z, h) | none => none)

def aMakeInterface (T : TypeId → Option TI) (e : Operand → AV) (h : H) (t : TypeId) (x : Operand) : Option (AV × H) :=
  (match T t with | some ti => (match isIface ti.d with | false => some (.iface t (e x), h) | true => none) | none => none)

def aMakeSlice (T : TypeId → Option TI) (e : Operand → AV) (h : H) (t : TypeId) (l : Operand) (c : Operand) : Option (AV × H) :=
  (match T t with | some ti => makeSliceA T ti (e l) (e c) h | none => none)

def aSlice (T : TypeId → Option TI) (e : Operand → AV) (h : H) (t : TypeId) (x : Operand) (lo : Option Operand) (hi : Option Operand) (mx : Option Operand) : Option (AV × H) :=
  (match T t with | some ti => (match sliceA T ti (e x) (mapO e lo) (mapO e hi) (mapO e mx) with | some y => some (y, h) | none => none) | none => none)

def aFieldAddr (T : TypeId → Option TI) (e : Operand → AV) (h : H) (t : TypeId) (x : Operand) (f : Nat) : Option (AV × H) :=
  (match T t with | some ti => (match fieldAddrA T ti (e x) f with | some y => some (y, h) | none => none) | none => none)

def aField (T : TypeId → Option TI) (e : Operand → AV) (h : H) (t : TypeId) (x : Operand) (f : Nat) : Option (AV × H) :=
  (match T t with | some ti => (match fieldA T ti (e x) f with | some y => some (y, h) | none => none) | none => none)

def aIndexAddr (T : TypeId → Option TI) (e : Operand → AV) (h : H) (t : TypeId) (x : Operand) (i : Operand) : Option (AV × H) :=
  (match T t with | some ti => (match indexAddrA T ti (e x) (e i) with | some y => some (y, h) | none => none) | none => none)

def aIndex (T : TypeId → Option TI) (e : Operand → AV) (h : H) (t : TypeId) (x : Operand) (i : Operand) : Option (AV × H) :=
  (match T t with | some ti => (match indexA T ti (e x) (e i) with | some y => some (y, h) | none => none) | none => none)

def aLookup (T : TypeId → Option TI) (e : Operand → AV) (h : H) (t : TypeId) (m : Operand) (k : Operand) (ok : Bool) : Option (AV × H) :=
  (match T t with | some ti => (match lookupA T ti h (e m) (e k) ok with | some y => some (y, h) | none => none) | none => none)

def aMapUpdate (T : TypeId → Option TI) (e : Operand → AV) (h : H) (t : TypeId) (m : Operand) (k : Operand) (v : Operand) : Option (AV × H) :=
  (match T t with | some ti => (match mapUpdateA T ti h (e m) (e k) (e v) with | some h => some (undefA, h) | none => none) | none => none)

def aTypeAssert (T : TypeId → Option TI) (e : Operand → AV) (h : H) (x : Operand) (t : TypeId) (ok : Bool) : Option (AV × H) :=
  (match assertA T (e x) t ok with | some y => some (y, h) | none => none)

def aExtract (T : TypeId → Option TI) (e : Operand → AV) (h : H) (t : Operand) (i : Nat) : Option (AV × H) :=
  (match e t with | .tup vs => (match vs[i]? with | some y => some (y, h) | none => none) | _ => none)

def aCall (T : TypeId → Option TI) (e : Operand → AV) (h : H) (c : Call) : Option (AV × H) :=
  (match c.callee with | .builtin b => builtinA T b c.argTypes (c.args.toList.map e) h | _ => none)

/-- An operation that calls nobody. -/
def opA (T : TypeId → Option TI) (e : Operand → AV) (h : H) (o : Op) : Option (AV × H) :=
  match o with
  | .move x | .assign x => some (e x, h)
  | .pick c a b => aPick T e h c a b
  | .alloc t => aAlloc T e h t
  | .box _ x => boxA h (e x)
  | .build t ps => aBuild T e h t ps
  | .buildSlice t n ps => aBuildSlice T e h t n ps
  | .load t x => aLoad T e h t x
  | .store t x v => aStore T e h t x v
  | .nilCheck x => aNilCheck T e h x
  | .binOp op t x y _ => aBinOp T e h op t x y
  | .unOp op _ x => aUnOp T e h op x
  | .convert s d x => convA T s d (e x) h
  | .makeInterface t x => aMakeInterface T e h t x
  | .makeFunc fn f c => some (.func fn (f.toList.map e) (c.toList.map e), h)
  | .makeMap t r => makeMapA T t (mapO e r) h
  | .makeSlice t l c => aMakeSlice T e h t l c
  | .slice t x lo hi mx => aSlice T e h t x lo hi mx
  | .fieldAddr t x f => aFieldAddr T e h t x f
  | .field t x f => aField T e h t x f
  | .indexAddr t x i => aIndexAddr T e h t x i
  | .index t x i => aIndex T e h t x i
  | .lookup t m k ok => aLookup T e h t m k ok
  | .mapUpdate t m k v | .insert t m k v => aMapUpdate T e h t m k v
  | .typeAssert x _ t ok => aTypeAssert T e h x t ok
  | .extract t i => aExtract T e h t i
  | .call c => aCall T e h c
  | _ => none

theorem relL_map {g : Gh} {e : Operand → AV} {ρ : Operand → Value} (he : ∀ x, Rel g (e x) (ρ x)) : ∀ l : List Operand, RelL g (l.map e) (l.map ρ)
  | [] => .nil
  | x :: r => .cons _ _ _ _ (he x) (relL_map he r)
theorem relO_map {g : Gh} {e : Operand → AV} {ρ : Operand → Value} (he : ∀ x, Rel g (e x) (ρ x)) : ∀ o : Option Operand, RelO g (mapO e o) (o.map ρ)
  | none => .none
  | some x => .some _ _ (he x)

theorem arr_map {α β : Type} (f : α → β) (a : Array α) : a.map f = (a.toList.map f).toArray := by apply Array.ext'; simp

theorem op_ok {P : Program} {g : Gh} {h : H} {w : World} (R : RS g h w) {e : Operand → AV} {ρ : Operand → Value} (he : ∀ x, Rel g (e x) (ρ x)) {o : Oper} {y : AV} {h' : H} (hb : opA (tiOf P) e h o.op = some (y, h')) :
    NOk P (execOp ρ o) g h w y h' := by
  unfold execOp
  unfold opA at hb
  have parts1 : ∀ ps : Array (Nat × Operand), (ps.toList.map fun (i, x) => (i, e x)).map (·.1) = ((ps.map fun (i, x) => (i, ρ x)).toList).map (·.1) := fun ps => by simp [List.map_map, Function.comp_def]
  have parts2 : ∀ ps : Array (Nat × Operand), RelL g ((ps.toList.map fun (i, x) => (i, e x)).map (·.2)) (((ps.map fun (i, x) => (i, ρ x)).toList).map (·.2)) := fun ps => by
    have := relL_map he (ps.toList.map (·.2))
    simpa [List.map_map, Function.comp_def] using this
  cases ho : o.op <;> rw [ho] at hb <;> simp only [aPick, aAlloc, aBuild, aBuildSlice, aLoad, aStore, aNilCheck, aBinOp, aUnOp, aMakeInterface, aMakeSlice, aSlice, aFieldAddr, aField, aIndexAddr, aIndex, aLookup, aMapUpdate, aTypeAssert, aExtract, aCall] at hb ⊢ <;> try (cases hb; done)
  case move x => cases hb; exact ⟨ρ x, w, g, .inl rfl, .refl g _ w, R, he x⟩
  case assign x => cases hb; exact ⟨ρ x, w, g, .inl rfl, .refl g _ w, R, he x⟩
  case pick c a b =>
    have hc := he c
    split at hb <;> cases hb
    · rename_i e1; rw [e1] at hc; generalize hq : ρ c = q at hc; cases hc
      exact ⟨ρ a, w, g, .inl (by simp [asBool]), .refl g _ w, R, he a⟩
    · rename_i e1; rw [e1] at hc; generalize hq : ρ c = q at hc; cases hc
      exact ⟨ρ b, w, g, .inl (by simp [asBool]), .refl g _ w, R, he b⟩
  case alloc t =>
    split at hb
    · rename_i ti ht
      split at hb
      · rename_i z hz
        obtain ⟨zv, hrun, hzr⟩ := run_zero ht w hz g
        obtain ⟨v, w', g', h1, h2, h3, h4⟩ := box_ok (P := P) R t hzr hb
        refine NOk.of ⟨v, w', g', ?_, h2, h3, h4⟩
        unfold Instr.alloc
        simp only [Sem.run_bind, hrun, Result.andThen_ok]
        simpa using h1
      · cases hb
    · cases hb
  case box t x => exact NOk.of (box_ok R t (he x) hb)
  case build t ps =>
    split at hb
    · rename_i ti ht
      split at hb <;> cases hb
      rename_i hy
      have := build_ok (P := P) R ht (parts1 ps) (parts2 ps) hy
      exact NOk.of this
    · cases hb
  case buildSlice t n ps =>
    split at hb
    · rename_i ti ht
      have := buildSlice_ok (P := P) R ht (parts1 ps) (parts2 ps) hb
      exact NOk.of this
    · cases hb
  case load t x =>
    split at hb
    · rename_i ti cs off ht hc
      split at hb <;> cases hb
      rename_i hy
      obtain ⟨ad, hv, hs⟩ := cellsOf_spot (w := w) R (he x) hc
      obtain ⟨u, h1, h2⟩ := read_ok (P := P) ht hs hy
      exact NOk.of (.pure R (v := u) (by rw [hv]; simpa [Instr.loadAt, Instr.sureAddr] using h1) h2)
    · cases hb
  case store t x v =>
    split at hb
    · rename_i ti id off ht hx
      split at hb
      · rename_i cs hid
        split at hb <;> cases hb
        rename_i h1 h2 h3
        have hxr := he x
        rw [hx] at hxr
        generalize hq : ρ x = q at hxr
        have hsc := allSc_iff h2
        have hvr := he v
        have hrc := rel_cells hvr hsc
        have hlen := hrc.length
        have h1' := (beq_iff _ _).1 h1
        cases hxr with
        | ptr _ _ b o' c hφ =>
          obtain ⟨w', q1, q2, q3⟩ := write_ok (P := P) R hid hφ hrc hsc h3
          refine NOk.unit ⟨w', ?_, q2, q3⟩
          unfold Instr.storeAt Instr.sureAddr storeVar
          have hsz : ¬ ((ρ v).cells.size ≠ ti.size) := by simp; rw [← h1', hlen]; simp
          simp only [Sem.run_bind, Sem.run_pure, Result.andThen_ok, run_size ht, hsz, if_false]
          exact q1
      · cases hb
    · cases hb
  case nilCheck x =>
    have hx := he x
    split at hb <;> cases hb <;> rename_i e1 <;> rw [e1] at hx <;> generalize hq : ρ x = q at hx <;> have hx' := hx <;> cases hx <;> exact ⟨_, w, g, .inl rfl, .refl g _ w, R, hx'⟩
  case binOp op t x y _ =>
    split at hb
    · rename_i ti ht
      split at hb
      · cases hb
        rename_i hz
        obtain ⟨hg, q, h1, h2⟩ := binG_ok (P := P) w ht (X := x) (Y := y) (he x) (he y) hz
        exact NOk.of (.pure R (v := q) (by simp only [Sem.run_bind, hg, Result.andThen_ok, h1]) h2)
      · split at hb <;> cases hb
        rename_i hz
        obtain ⟨hg, q, h1, h2⟩ := nilA_ok (P := P) w ht (X := x) (Y := y) (he x) (he y) hz
        exact NOk.of (.pure R (v := q) (by simp only [Sem.run_bind, hg, Result.andThen_ok, h1]) h2)
    · cases hb
  case unOp op t x =>
    split at hb <;> cases hb
    rename_i hz
    obtain ⟨q, h1, h2⟩ := run_unA (P := P) w (he x) hz
    exact NOk.of (.pure R h1 h2)
  case convert s d x => exact NOk.of (conv_ok R (he x) hb)
  case makeInterface t x =>
    split at hb
    · rename_i ti ht
      split at hb <;> cases hb
      rename_i hi
      refine NOk.of (.pure R (v := .iface t (ρ x)) ?_ (.iface _ _ _ (he x)))
      unfold Instr.makeInterface
      simp only [Sem.run_bind, run_und ht, Result.andThen_ok]
      cases hd : ti.d <;> rw [hd] at hi <;> first | rfl | (cases hi)
    · cases hb
  case makeFunc fn f c =>
    cases hb
    refine NOk.of (.pure R (v := .func fn (f.map ρ) (c.map ρ)) rfl ?_)
    have := Rel.func (g := g) fn _ _ _ _ (relL_map he f.toList) (relL_map he c.toList)
    rw [arr_map ρ f, arr_map ρ c]; exact this
  case makeMap t r => exact NOk.of (makeMap_ok R (relO_map he r) hb)
  case makeSlice t l c =>
    split at hb
    · rename_i ti ht; exact NOk.of (makeSlice_ok R ht (he l) (he c) hb)
    · cases hb
  case slice t x lo hi mx =>
    split at hb
    · rename_i ti ht
      split at hb <;> cases hb
      rename_i hy
      exact NOk.of (slice_ok R ht (he x) (relO_map he lo) (relO_map he hi) (relO_map he mx) hy)
    · cases hb
  case fieldAddr t x f =>
    split at hb
    · rename_i ti ht
      split at hb <;> cases hb
      rename_i hy
      exact NOk.of (fieldAddr_ok R ht (he x) hy)
    · cases hb
  case field t x f =>
    split at hb
    · rename_i ti ht
      split at hb <;> cases hb
      rename_i hy
      exact NOk.of (field_ok R ht (he x) hy)
    · cases hb
  case indexAddr t x i =>
    split at hb
    · rename_i ti ht
      split at hb <;> cases hb
      rename_i hy
      exact NOk.of (indexAddr_ok R ht (he x) (he i) hy)
    · cases hb
  case index t x i =>
    split at hb
    · rename_i ti ht
      split at hb <;> cases hb
      rename_i hy
      exact NOk.of (index_ok R ht (he x) (he i) hy)
    · cases hb
  case lookup t m k ok =>
    split at hb
    · rename_i ti ht
      split at hb <;> cases hb
      rename_i hy
      exact NOk.of (lookup_ok R ht (he m) (he k) hy)
    · cases hb
  case mapUpdate t m k v =>
    split at hb
    · rename_i ti ht
      split at hb <;> cases hb
      rename_i hy
      exact NOk.unit (mapUpdate_ok R ht (he m) (he k) (he v) hy)
    · cases hb
  case insert t m k v =>
    split at hb
    · rename_i ti ht
      split at hb <;> cases hb
      rename_i hy
      exact NOk.unit (mapUpdate_ok R ht (he m) (he k) (he v) hy)
    · cases hb
  case typeAssert x t0 t ok =>
    split at hb <;> cases hb
    rename_i hy
    exact NOk.of (assert_ok R (he x) hy)
  case extract t i =>
    have hx := he t
    split at hb
    · rename_i vs e1
      split at hb <;> cases hb
      rename_i hy
      rw [e1] at hx
      generalize hq : ρ t = q at hx
      cases hx with
      | tup _ us hr =>
        obtain ⟨u, h1, h2⟩ := hr.get hy
        exact NOk.of (.pure R (v := u) (by simp [Instr.extract, h1]) h2)
    · cases hb
  case call c =>
    split at hb
    · rename_i b hc
      have := builtin_ok (P := P) R (ty := o.type) (consts := c.args.map fun | .const _ => true | _ => false) (relL_map he c.args.toList) hb
      rw [← arr_map ρ c.args] at this
      unfold resolve
      simp only [hc]
      exact this
    · cases hb


/-- And what looks at the memory where it need not be looked at as a rule. -/
def opW (T : TypeId → Option TI) (e : Operand → AV) (h : H) (o : Op) : Option (AV × H) :=
  match opA T e h o with
  | some r => some r
  | none => match o with
    | .slice t x lo hi mx => (match T t with | some ti => (match sliceHA T ti h (e x) (mapO e lo) (mapO e hi) (mapO e mx) with | some y => some (y, h) | none => none) | none => none)
    | _ => none
theorem opW_ok {P : Program} {g : Gh} {h : H} {w : World} (R : RS g h w) {e : Operand → AV} {ρ : Operand → Value} (he : ∀ x, Rel g (e x) (ρ x)) {o : Oper} {y : AV} {h' : H} (hb : opW (tiOf P) e h o.op = some (y, h')) :
    NOk P (execOp ρ o) g h w y h' := by
  unfold opW at hb
  split at hb
  · rename_i r hr
    cases hb
    exact op_ok R he hr
  · cases ho : o.op <;> rw [ho] at hb <;> try (cases hb; done)
    case slice t x lo hi mx =>
      simp only at hb
      unfold execOp
      rw [ho]
      simp only
      split at hb
      · rename_i ti ht
        split at hb <;> cases hb
        rename_i hy
        exact NOk.of (sliceH_ok R ht (he x) (relO_map he lo) (relO_map he hi) (relO_map he mx) hy)
      · cases hb

end
end Go.Ab
/-! Code. -/
namespace Go.Ab
open Go
noncomputable section

/-- A deferred call; or the mark that a range over a function leaves. -/
inductive DefA | fn (fn : Fn) (cap args : List AV) | mark (id : Nat)
/-- No fence; in a round of a loop's, or not. -/
def Fr (r : Option Nat) : Fence := { Fence.wide with round := r }
theorem calls_fr {r : Option Nat} {n : Nat} {P : Program} {f : FuncId} {args : Array Value} {w : World} {R : Ending → World → Prop} (h : Calls P f args w R) : CallsIn (Fr r) n P f args w R :=
  (callsIn_wide (n := n)).2 h
theorem about_fr {r : Option Nat} {P : Program} {o : Oper} {w : World} {ρ : Operand → Value} : ∀ f, o.about P w ρ = some f → (Fr r).fn f := fun _ _ => trivial
theorem depth_fr {r : Option Nat} {n : Nat} : (Fr r).depth.isSome = true → 1 ≤ n := fun h => by cases h
structure AcA where
  tmps : Env
  defs : List DefA
inductive ExA where | normal | exit (id : Nat) | goto (l : Nat) | ret | panic (v : AV)
inductive RF where | ret (v : AV) (h : H) | panic (v : AV) (h : H) | fail
inductive RC where | ok (e : ExA) (a : AcA) (h : H) | fail
inductive OR where | val (v : AV) (h : H) | panic (v : AV) (h : H) | defer (d : DefA) | fail

inductive RelD (g : Gh) : List DefA → List Deferred → Prop
  | nil : RelD g [] []
  | cons (fn : Fn) (cap args : List AV) (c a : List Value) (ds : List DefA) (es : List Deferred) (hc : RelL g cap c) (ha : RelL g args a) (t : RelD g ds es) :
      RelD g (.fn fn cap args :: ds) (({ target := .fn fn c.toArray, args := a.toArray } : Deferred) :: es)
  | mark (id b o c : Nat) (ds : List DefA) (es : List Deferred) (h : g.φ id = some (b, o, c)) (t : RelD g ds es) : RelD g (.mark id :: ds) (({ target := .collected b, args := #[] } : Deferred) :: es)
theorem RelD.mono {g g' : Gh} (hg : g.le g') : {a : List DefA} → {b : List Deferred} → RelD g a b → RelD g' a b
  | _, _, .nil => .nil
  | _, _, .cons fn cap args c a ds es hc ha t => .cons fn cap args c a ds es (hc.mono hg) (ha.mono hg) (t.mono hg)
  | _, _, .mark id b o c ds es h t => .mark id b o c ds es (hg.φ _ _ h) (t.mono hg)

structure RA (g : Gh) (a : AcA) (ca : Act) : Prop where
  tm : RelT g a.tmps ca.tmps.toList
  df : RelD g a.defs ca.defers
theorem RA.mono {g g' : Gh} (hg : g.le g') {a : AcA} {ca : Act} (h : RA g a ca) : RA g' a ca := ⟨h.tm.mono hg, h.df.mono hg⟩

inductive RelE (g : Gh) : ExA → Exit → Prop
  | normal : RelE g .normal .normal
  | exit (id : Nat) : RelE g (.exit id) (.exit id)
  | goto (l : Nat) : RelE g (.goto l) (.goto l)
  | ret : RelE g .ret .ret
  | panic (v : AV) (u : Value) (h : Rel g v u) : RelE g (.panic v) (.panic [{ v := u, recovered := false }])

/-- The package variables that are known. -/
def GOk (g : Gh) (G : Nat → Option (List AV)) : Prop := ∀ b cs, G b = some cs → (∀ x ∈ cs, x.sc = true) ∧ ∃ vs, RelL g cs vs ∧ ∀ i, i < vs.length → g.I b (0 + i) = vs[i]?
theorem GOk.mono {g g' : Gh} (hg : g.le g') {G : Nat → Option (List AV)} (h : GOk g G) : GOk g' G := fun b cs hb => by
  obtain ⟨h1, vs, h2, h3⟩ := h b cs hb
  refine ⟨h1, vs, h2.mono hg, fun i hi => ?_⟩
  obtain ⟨u, hu⟩ : ∃ u, vs[i]? = some u := ⟨_, List.getElem?_eq_getElem hi⟩
  have h4 := h3 i hi
  rw [hu] at h4 ⊢
  exact hg.I _ _ _ h4

def ev (G : Nat → Option (List AV)) (tm : Env) : Operand → AV
  | .tmp t => eget tm t
  | .const v => ofVal v
  | .global g => (match G g with | some cs => .iptr cs 0 | none => .raw (.pointer (some ⟨g, 0, none⟩)))
  | .func f => .func (.func f) [] []
theorem ev_ok {g : Gh} {G : Nat → Option (List AV)} (hG : GOk g G) {a : AcA} {ca : Act} (h : RA g a ca) (x : Operand) : Rel g (ev G a.tmps x) (ca.eval x) := by
  cases x with
  | tmp t => have := h.tm.at_ t; simpa [ev, Act.eval] using this
  | const v => exact rel_ofVal g v
  | global b =>
    unfold ev Act.eval
    simp only
    cases hb : G b with
    | none => exact .raw _
    | some cs =>
      obtain ⟨h1, vs, h2, h3⟩ := hG b cs hb
      exact .iptr cs 0 b 0 vs h1 h2 h3
  | func f => exact .func (.func f) [] [] [] [] .nil .nil

def AcA.put (a : AcA) (d : Option Tmp) (v : AV) : AcA := @Option.rec Tmp (fun _ => AcA) a (fun d => @AcA.rec (fun _ => AcA) (fun t ds => ⟨eset t d v, ds⟩) a) d
theorem RA.put {g : Gh} {a : AcA} {ca : Act} (h : RA g a ca) {x : AV} {v : Value} (hx : Rel g x v) (d : Option Tmp) : RA g (a.put d x) (ca.put d v) := by
  cases d with
  | none => exact h
  | some d =>
    refine ⟨?_, h.df⟩
    have := h.tm.set hx d
    simpa [AcA.put, Act.put] using this

/-- How a function that leaves stands: it returns; it dies; it died, and that was taken up. -/
inductive MA where | ret | pan (v : AV) | done
inductive RD where | ok (m : MA) (h : H) | fail
def MA.settle : MA → MA | .done => .ret | m => m
inductive ModeR (g : Gh) : MA → FrameMode → Prop
  | ret : ModeR g .ret .returning
  | pan (a : AV) (v : Value) (h : Rel g a v) : ModeR g (.pan a) (.panicking [{ v, recovered := false }])
  | done (v : Value) : ModeR g .done (.panicking [{ v, recovered := true }])
theorem ModeR.mono {g g' : Gh} (hg : g.le g') {m : MA} {u : FrameMode} (h : ModeR g m u) : ModeR g' m u := by
  cases h with
  | ret => exact .ret
  | pan a v h => exact .pan a v (h.mono hg)
  | done v => exact .done v
theorem ModeR.ne_run {g : Gh} {m : MA} {u : FrameMode} (h : ModeR g m u) : u ≠ .run := by cases h <;> simp

/-- What the machine one step shallower does. -/
structure Self where
  c : Bool → Code → AcA → H → RC
  l : Bool → Code → AcA → H → RC
  s : Bool → Code → Code → AcA → H → RC
  y : Nat → List AV → H → RF
  f : FuncId → List AV → H → RF
  fd : MA → FuncId → List AV → H → RD
  ds : MA → List DefA → H → RD

section
variable (T : TypeId → Option TI) (F : FuncId → Option Func) (G : Nat → Option (List AV)) (S : Self)

/-- Does the guard let it? none: that cannot be told. -/
def wantedA (ops : List Oper) (o : Oper) (tm : Env) : Option Bool :=
  match o.guard with
  | none => some true
  | some (j, want) => match ops[j]? with
    | some oj => (match oj.dst with
      | some d => (match eget tm d with | .bool b => some (b == want) | .raw _ => none | _ => some false)
      | none => some false)
    | none => some false

def rCall (a : AcA) (h : H) (c : Call) : OR :=
  match c.callee with
    | .value f => (match ev G a.tmps f with
      | .func (.func fid) first cap => (match S.f fid ((first ++ c.args.toList.map (ev G a.tmps)) ++ cap) h with | .ret v h => .val v h | .panic v h => .panic v h | .fail => .fail)
      | .yield id => (match S.y id (c.args.toList.map (ev G a.tmps)) h with | .ret v h => .val v h | _ => .fail)
      | _ => .fail)
    | .builtin b => (match builtinA T b c.argTypes (c.args.toList.map (ev G a.tmps)) h with | some (v, h) => .val v h | none => .fail)
    | .invoke r name => (match ev G a.tmps r with
      | .iface t v => (match T t with
        | some ti => (match ti.meth name with
          | some fid => (match S.f fid (v :: c.args.toList.map (ev G a.tmps)) h with | .ret v h => .val v h | .panic v h => .panic v h | .fail => .fail)
          | none => .fail)
        | none => .fail)
      | _ => .fail)
def rDefer (rd : Bool) (a : AcA) (c : Call) : OR :=
  match rd, c.callee with
    | false, .value f => (match ev G a.tmps f with
      | .func fn first cap => .defer (.fn fn cap (first ++ c.args.toList.map (ev G a.tmps)))
      | _ => .fail)
    | _, _ => .fail
def rPlain (r : Option (AV × H)) : OR := match r with | some (v, h) => .val v h | none => .fail
def opR (rd : Bool) (a : AcA) (h : H) (o : Oper) : OR :=
  match o.op with
  | .call c => rCall T G S a h c
  | .panic x => (match ev G a.tmps x with | .iface t v => .panic (.iface t v) h | _ => .fail)
  | .defer c => rDefer G rd a c
  | op => rPlain (opW T (ev G a.tmps) h op)

def stepOps (rd : Bool) (ops : List Oper) : List Oper → AcA → H → RC
  | [], a, h => .ok .normal a h
  | o :: r, a, h => match wantedA ops o a.tmps with
    | none => .fail
    | some false => stepOps rd ops r (a.put o.dst undefA) h
    | some true => match opR T G S rd a h o with
      | .val v h => stepOps rd ops r (a.put o.dst v) h
      | .panic v h => .ok (.panic v) a h
      | .defer d => stepOps rd ops r (({ a with defs := d :: a.defs } : AcA).put o.dst undefA) h
      | .fail => .fail
end

/-! ### what it means for a shallower machine to be right -/
def CSound (P : Program) (G : Nat → Option (List AV)) (f : Bool → Code → AcA → H → RC) : Prop :=
  ∀ rd c a h e a' h', f rd c a h = .ok e a' h' → ∀ r : Option Nat, r.isSome = rd → ∀ g ca w, RA g a ca → RS g h w → GOk g G → ∀ Q : Exit → Act → World → Prop,
    (∀ g' ce ca' w', Ext g h w g' h' w' → RS g' h' w' → RA g' a' ca' → RelE g' e ce → Q ce ca' w') → c.wpIn (Fr r) 0 P Q ca w
def FPost (g : Gh) (h : H) (w : World) (r : RF) (e : Ending) (w' : World) : Prop :=
  match r with
  | .ret v h' => ∃ g' u, e = .returned u ∧ Ext g h w g' h' w' ∧ RS g' h' w' ∧ Rel g' v u
  | .panic v h' => ∃ g' u, e = .panicked [{ v := u, recovered := false }] ∧ Ext g h w g' h' w' ∧ RS g' h' w' ∧ Rel g' v u
  | .fail => False
def FSound (P : Program) (G : Nat → Option (List AV)) (f : FuncId → List AV → H → RF) : Prop :=
  ∀ fid args h r, f fid args h = r → r ≠ .fail → ∀ g w vals, RelL g args vals → RS g h w → GOk g G → (∃ fn, P.funcs[fid]? = some fn ∧ fn.body.isSome = true) ∧ Calls P fid vals.toArray w (FPost g h w r)
def YSound (P : Program) (G : Nat → Option (List AV)) (f : Nat → List AV → H → RF) : Prop :=
  ∀ id args h v h', f id args h = .ret v h' → ∀ g w vals b o c, g.φ id = some (b, o, c) → RelL g args vals → RS g h w → GOk g G →
    ∃ fn tmps assign body, (Instr.yield b vals.toArray).run P w = .ok (.round b fn tmps assign body) w ∧ RoundIn Fence.wide 0 P b fn tmps assign body w (FPost g h w (.ret v h'))
def DSound (P : Program) (G : Nat → Option (List AV)) (f : MA → List DefA → H → RD) : Prop :=
  ∀ ds m h m' h', f m ds h = .ok m' h' → ∀ g w es u fn tmps R, RelD g ds es → ModeR g m u → RS g h w → GOk g G →
    (∀ g' w' u', Ext g h w g' h' w' → RS g' h' w' → ModeR g' m' u' → LeavesInM Fence.wide 0 P fn tmps R [] u' w') → LeavesInM Fence.wide 0 P fn tmps R es u w

section
variable {P : Program} {G : Nat → Option (List AV)} {S : Self}

/-- No function is one that the model answers by itself. -/
def NoOwn (P : Program) : Prop := ∀ fn ∈ P.funcs, (fn.name == "runtime.NumGoroutine") = false

theorem run_call (hN : NoOwn P) {fid : FuncId} {fn : Func} (hf : P.funcs[fid]? = some fn) (hb : fn.body.isSome = true) (args : Array Value) (w : World) : (callFunc fid args).run P w = .ok (.enter fid args) w := by
  have hn := hN fn (Array.mem_of_getElem? hf)
  have hbn : fn.body.isNone = false := by cases h : fn.body <;> simp_all
  unfold callFunc
  simp only [Sem.run_bind, run_program, Result.andThen_ok, hf, hn, hbn, Bool.false_eq_true, if_false, Sem.run_pure]

theorem toArray_append3 (a b c : List Value) : (a.toArray ++ b.toArray) ++ c.toArray = ((a ++ b) ++ c).toArray := by
  apply Array.ext'; simp

/-- A call of an interface's method. -/
theorem run_invoke (hN : NoOwn P) {t : TypeId} {ti : TI} (ht : tiOf P t = some ti) {name : String} {fid : FuncId} (hm : ti.meth name = some fid) {fn : Func} (hf : P.funcs[fid]? = some fn) (hb : fn.body.isSome = true) (v : Value) (args : List Value) (w : World) :
    (invoke (.fn (.method name) #[]) (#[.iface t v] ++ args.toArray)).run P w = .ok (.enter fid (v :: args).toArray) w := by
  have h0 : (#[Value.iface t v] ++ args.toArray)[0]? = some (.iface t v) := by simp
  have h1 : (#[Value.iface t v] ++ args.toArray).extract 1 (#[Value.iface t v] ++ args.toArray).size = args.toArray := by apply Array.ext'; simp
  unfold invoke
  simp only [h0, h1]
  unfold callMethod
  obtain ⟨n, hn⟩ : ∃ n, P.types.size + Made.depth = n + 1 := ⟨P.types.size + Made.depth - 1, by unfold Made.depth; omega⟩
  simp only [Sem.run_bind, run_program, Result.andThen_ok, hn, run_method ht w hm]
  have e : (#[v] ++ args.toArray : Array Value) = (v :: args).toArray := by apply Array.ext'; simp
  rw [e]
  exact run_call hN hf hb _ w

theorem opR_val (hN : NoOwn P) (hS : FSound P G S.f) (hY : YSound P G S.y) {rd : Bool} {r : Option Nat} {g : Gh} {a : AcA} {ca : Act} {h : H} {w : World} (A : RA g a ca) (R : RS g h w) (hG : GOk g G) {o : Oper} {v : AV} {h' : H} (hb : opR (tiOf P) G S rd a h o = .val v h')
    {next : Act → World → Prop} {Q : Exit → Act → World → Prop} (K : ∀ g' w' u, Ext g h w g' h' w' → RS g' h' w' → Rel g' v u → next (ca.put o.dst u) w') : o.wpIn (Fr r) 0 P ca w next Q := by
  have he := ev_ok hG A
  have plain : ∀ {x : AV} {h1 : H}, (∀ c, o.op ≠ .defer c) → NOk P (execOp ca.eval o) g h w x h1 → v = x → h' = h1 → o.wpIn (Fr r) 0 P ca w next Q := fun hnd hn e1 e2 => by
    subst e1; subst e2
    obtain ⟨u, w', g', h1, h2, h3, h4⟩ := hn
    refine ⟨about_fr, ?_⟩
    rw [Oper.semAt_eq _ _ _ hnd]
    rcases h1 with h1 | ⟨h1, rfl⟩
    · rw [h1]; exact K g' w' u h2 h3 h4
    · rw [h1]; exact K g' w' _ h2 h3 h4
  have direct : (∀ c, o.op ≠ .defer c) → (match opW (tiOf P) (ev G a.tmps) h o.op with | some (v, h) => OR.val v h | none => .fail) = .val v h' → o.wpIn (Fr r) 0 P ca w next Q := fun hnd hd => by
    split at hd <;> cases hd
    rename_i hy
    exact plain hnd (opW_ok (P := P) R he hy) rfl rfl
  simp only [opR, rCall, rDefer, rPlain] at hb
  split at hb
  · rename_i c hc
    split at hb
    · rename_i f hcal
      split at hb
      · rename_i fid first cap hev
        split at hb <;> cases hb
        rename_i hcall
        have hfv := he f
        rw [hev] at hfv
        generalize hq : ca.eval f = q at hfv
        cases hfv with
        | func _ _ _ fl cl hfl hcl =>
          have hargs := relL_map he c.args.toList
          obtain ⟨⟨fn, hfn, hbody⟩, hC⟩ := hS fid _ h _ hcall (by simp) g w ((fl ++ c.args.toList.map ca.eval) ++ cl) (hcl.append (hargs.append hfl)) R hG
          refine ⟨about_fr, ?_⟩
          rw [Oper.semAt_eq _ _ _ (fun c' e => by rw [hc] at e; cases e)]
          unfold execOp
          simp only [hc]
          unfold resolve
          simp only [hcal, hq, Deferred.ofValue, Sem.run_bind, Sem.run_pure, Result.andThen_ok, invoke]
          rw [arr_map ca.eval c.args, toArray_append3, run_call hN hfn hbody]
          refine ⟨depth_fr, calls_fr (hC.mono fun e w' he' => ?_)⟩
          obtain ⟨g', u, rfl, h1, h2, h3⟩ := he'
          exact K g' w' u h1 h2 h3
      · rename_i id hev
        split at hb <;> cases hb
        rename_i hcall
        have hfv := he f
        rw [hev] at hfv
        generalize hq : ca.eval f = q at hfv
        cases hfv with
        | yield _ b o1 c1 hφ =>
          have hargs := relL_map he c.args.toList
          obtain ⟨fnv, tmps, assign, body, hy, hR⟩ := hY _ _ h _ _ hcall g w _ b o1 c1 hφ hargs R hG
          refine ⟨about_fr, ?_⟩
          rw [Oper.semAt_eq _ _ _ (fun c' e => by rw [hc] at e; cases e)]
          unfold execOp
          simp only [hc]
          unfold resolve
          simp only [hcal, hq, Deferred.ofValue, Sem.run_bind, Sem.run_pure, Result.andThen_ok, invoke]
          rw [arr_map ca.eval c.args, show (#[] ++ (List.map ca.eval c.args.toList).toArray : Array Value) = (List.map ca.eval c.args.toList).toArray by simp, hy]
          refine ⟨depth_fr, RoundIn.mono (F := Fence.wide) hR fun e w' he' => ?_⟩
          obtain ⟨g', u, rfl, h1, h2, h3⟩ := he'
          exact K g' w' u h1 h2 h3
      · cases hb
    · rename_i b hcal
      split at hb <;> cases hb
      rename_i hy
      refine plain (fun c' e => by rw [hc] at e; cases e) (op_ok (P := P) (o := o) (y := v) (h' := h') R he ?_) rfl rfl
      rw [hc]; simp only [opA, aCall, hcal]; exact hy
    · rename_i rv name hcal
      split at hb
      · rename_i t v0 hev
        split at hb
        · rename_i ti ht
          split at hb
          · rename_i fid hm
            split at hb <;> cases hb
            rename_i hcall
            have hfv := he rv
            rw [hev] at hfv
            generalize hq : ca.eval rv = q at hfv
            cases hfv with
            | iface _ _ u0 hu0 =>
              have hargs := relL_map he c.args.toList
              obtain ⟨⟨fn, hfn, hbody⟩, hC⟩ := hS fid _ h _ hcall (by simp) g w (u0 :: c.args.toList.map ca.eval) (.cons _ _ _ _ hu0 hargs) R hG
              refine ⟨about_fr, ?_⟩
              rw [Oper.semAt_eq _ _ _ (fun c' e => by rw [hc] at e; cases e)]
              unfold execOp
              simp only [hc]
              unfold resolve
              simp only [hcal, hq, Sem.run_bind, Sem.run_pure, Result.andThen_ok]
              rw [arr_map ca.eval c.args, run_invoke hN ht hm hfn hbody]
              refine ⟨depth_fr, calls_fr (hC.mono fun e w' he' => ?_)⟩
              obtain ⟨g', u, rfl, h1, h2, h3⟩ := he'
              exact K g' w' u h1 h2 h3
          · cases hb
        · cases hb
      · cases hb
  · split at hb <;> cases hb
  · split at hb
    · split at hb <;> cases hb
    · cases hb
  · rename_i hnc hnp hnd
    exact direct (fun c' e => hnd c' e) hb

theorem opR_panic (hN : NoOwn P) (hS : FSound P G S.f) {rd : Bool} {r : Option Nat} {g : Gh} {a : AcA} {ca : Act} {h : H} {w : World} (A : RA g a ca) (R : RS g h w) (hG : GOk g G) {o : Oper} {v : AV} {h' : H} (hb : opR (tiOf P) G S rd a h o = .panic v h')
    {next : Act → World → Prop} {Q : Exit → Act → World → Prop} (K : ∀ g' w' u, Ext g h w g' h' w' → RS g' h' w' → Rel g' v u → Q (.panic [{ v := u, recovered := false }]) ca w') : o.wpIn (Fr r) 0 P ca w next Q := by
  have he := ev_ok hG A
  simp only [opR, rCall, rDefer, rPlain] at hb
  split at hb
  · rename_i c hc
    split at hb
    · rename_i f hcal
      split at hb
      · rename_i fid first cap hev
        split at hb <;> cases hb
        rename_i hcall
        have hfv := he f
        rw [hev] at hfv
        generalize hq : ca.eval f = q at hfv
        cases hfv with
        | func _ _ _ fl cl hfl hcl =>
          have hargs := relL_map he c.args.toList
          obtain ⟨⟨fn, hfn, hbody⟩, hC⟩ := hS fid _ h _ hcall (by simp) g w ((fl ++ c.args.toList.map ca.eval) ++ cl) (hcl.append (hargs.append hfl)) R hG
          refine ⟨about_fr, ?_⟩
          rw [Oper.semAt_eq _ _ _ (fun c' e => by rw [hc] at e; cases e)]
          unfold execOp
          simp only [hc]
          unfold resolve
          simp only [hcal, hq, Deferred.ofValue, Sem.run_bind, Sem.run_pure, Result.andThen_ok, invoke]
          rw [arr_map ca.eval c.args, toArray_append3, run_call hN hfn hbody]
          refine ⟨depth_fr, calls_fr (hC.mono fun e w' he' => ?_)⟩
          obtain ⟨g', u, rfl, h1, h2, h3⟩ := he'
          exact K g' w' u h1 h2 h3
      · split at hb <;> cases hb
      · cases hb
    · split at hb <;> cases hb
    · rename_i rv name hcal
      split at hb
      · rename_i t v0 hev
        split at hb
        · rename_i ti ht
          split at hb
          · rename_i fid hm
            split at hb <;> cases hb
            rename_i hcall
            have hfv := he rv
            rw [hev] at hfv
            generalize hq : ca.eval rv = q at hfv
            cases hfv with
            | iface _ _ u0 hu0 =>
              have hargs := relL_map he c.args.toList
              obtain ⟨⟨fn, hfn, hbody⟩, hC⟩ := hS fid _ h _ hcall (by simp) g w (u0 :: c.args.toList.map ca.eval) (.cons _ _ _ _ hu0 hargs) R hG
              refine ⟨about_fr, ?_⟩
              rw [Oper.semAt_eq _ _ _ (fun c' e => by rw [hc] at e; cases e)]
              unfold execOp
              simp only [hc]
              unfold resolve
              simp only [hcal, hq, Sem.run_bind, Sem.run_pure, Result.andThen_ok]
              rw [arr_map ca.eval c.args, run_invoke hN ht hm hfn hbody]
              refine ⟨depth_fr, calls_fr (hC.mono fun e w' he' => ?_)⟩
              obtain ⟨g', u, rfl, h1, h2, h3⟩ := he'
              exact K g' w' u h1 h2 h3
          · cases hb
        · cases hb
      · cases hb
  · rename_i x hx
    split at hb <;> cases hb
    rename_i t v' hev
    have hxv := he x
    rw [hev] at hxv
    generalize hq : ca.eval x = q at hxv
    have hxv' := hxv
    cases hxv with
    | iface _ _ u hu =>
      refine ⟨about_fr, ?_⟩
      rw [Oper.semAt_eq _ _ _ (fun c' e => by rw [hx] at e; cases e)]
      unfold execOp
      simp only [hx, hq, Instr.panic, Sem.run_bind, run_goPanic, Result.andThen_halt]
      exact K g w _ (.refl g h w) R hxv'
  · split at hb
    · split at hb <;> cases hb
    · cases hb
  · split at hb <;> cases hb

theorem opR_defer {rd : Bool} {r : Option Nat} (hr : r.isSome = rd) {g : Gh} {a : AcA} {ca : Act} {h : H} {w : World} (A : RA g a ca) (hG : GOk g G) {o : Oper} {d : DefA} (hb : opR (tiOf P) G S rd a h o = .defer d)
    {next : Act → World → Prop} {Q : Exit → Act → World → Prop} (K : ∀ d', RelD g (d :: a.defs) (d' :: ca.defers) → next (({ ca with defers := d' :: ca.defers } : Act).put o.dst undef) w) : o.wpIn (Fr r) 0 P ca w next Q := by
  have he := ev_ok hG A
  simp only [opR, rCall, rDefer, rPlain] at hb
  split at hb
  · split at hb
    · split at hb
      · split at hb <;> cases hb
      · split at hb <;> cases hb
      · cases hb
    · split at hb <;> cases hb
    · repeat' split at hb
      all_goals cases hb
  · split at hb <;> cases hb
  · rename_i c hc
    split at hb
    · rename_i f hcal
      have hrn : r = none := by cases r with
        | none => rfl
        | some x => cases hr
      subst hrn
      split at hb <;> cases hb
      rename_i fn first cap hev
      have hfv := he f
      rw [hev] at hfv
      generalize hq : ca.eval f = q at hfv
      cases hfv with
      | func _ _ _ fl cl hfl hcl =>
        have hargs := relL_map he c.args.toList
        refine ⟨about_fr, ?_⟩
        show o.uponIn (Fr none) 0 P ca next Q ((execOp ca.eval o).run P w)
        unfold execOp
        simp only [hc]
        unfold resolve
        simp only [hcal, hq, Deferred.ofValue, Sem.run_bind, Sem.run_pure, Result.andThen_ok]
        have e : fl.toArray ++ c.args.map ca.eval = (fl ++ c.args.toList.map ca.eval).toArray := by apply Array.ext'; simp
        rw [e]
        exact K _ (.cons fn cap _ cl _ _ _ hcl (hargs.append hfl) A.df)
    · cases hb
  · split at hb <;> cases hb

/-- The guard. -/
theorem wanted_ok {g : Gh} {a : AcA} {ca : Act} (A : RA g a ca) {ops : Array Oper} {o : Oper} {b : Bool} (h : wantedA ops.toList o a.tmps = some b) : Region.wanted o (yielded ops ca.tmps) = b := by
  unfold wantedA at h
  unfold Region.wanted
  split at h
  · rename_i hg
    cases h; rw [hg]
  · rename_i j want hg
    rw [hg]
    simp only
    unfold yielded
    split at h
    · rename_i oj hj
      have hj' : ops[j]? = some oj := by simpa using hj
      rw [hj']
      simp only [Option.bind_some]
      split at h
      · rename_i d hd
        rw [hd]
        simp only [Option.bind_some]
        have hr := A.tm.at_ d
        have hcase : ∀ {x : AV}, eget a.tmps d = x → Rel g x (ca.tmps.toList.getD d undef) := fun e => e ▸ hr
        split at h
        · rename_i q hq
          cases h
          have := hcase hq
          generalize hz : ca.tmps.toList.getD d undef = z at this
          cases this
          have : ca.tmps[d]? = some (.bool q) := by
            rw [List.getD_eq_getElem?_getD] at hz
            cases hc : ca.tmps.toList[d]? with
            | none => rw [hc] at hz; simp [undef] at hz
            | some y => rw [hc] at hz; simp at hz; subst hz; simpa using hc
          rw [this]
          cases q <;> cases want <;> rfl
        · cases h
        · rename_i hnb hnr
          cases h
          have hne : ∀ q, ca.tmps[d]? ≠ some (.bool q) := fun q hc => by
            have hz : ca.tmps.toList.getD d undef = .bool q := by
              rw [List.getD_eq_getElem?_getD]
              have : ca.tmps.toList[d]? = some (.bool q) := by simpa using hc
              rw [this]; rfl
            rw [hz] at hr
            generalize hl : eget a.tmps d = x at hr
            cases hr with
            | bool => exact hnb q hl
            | raw => exact hnr _ hl
          cases hc : ca.tmps[d]? with
          | none => simp
          | some y => cases y <;> first | (exact absurd hc (hne _)) | simp
      · rename_i hd
        cases h; rw [hd]; simp
    · rename_i hj
      cases h
      have hj' : ops[j]? = none := by simpa using hj
      rw [hj']; simp

theorem ops_ok (hN : NoOwn P) (hS : FSound P G S.f) (hY : YSound P G S.y) {rd : Bool} {r0 : Option Nat} (hr0 : r0.isSome = rd) (ops : Array Oper) {e : ExA} {a' : AcA} {h' : H} (Q : Exit → Act → World → Prop) : ∀ (l : List Oper) (i : Nat), (∀ k, ops[i + k]? = l[k]?) → ∀ (a : AcA) (h : H), stepOps (tiOf P) G S rd ops.toList l a h = .ok e a' h' →
    ∀ g ca w, RA g a ca → RS g h w → GOk g G → (∀ g' ce ca' w', Ext g h w g' h' w' → RS g' h' w' → RA g' a' ca' → RelE g' e ce → Q ce ca' w') → wpOpsIn (Fr r0) 0 P ops Q (List.range' i l.length) ca w
  | [], i, hi, a, h, hb, g, ca, w, A, R, hG, K => by
    cases hb
    exact K g .normal ca w (.refl g _ w) R A .normal
  | o :: r, i, hi, a, h, hb, g, ca, w, A, R, hG, K => by
    have ho : ops[i]? = some o := by have := hi 0; simpa using this
    have hr : ∀ k, ops[i + 1 + k]? = r[k]? := fun k => by have := hi (k + 1); simpa [Nat.add_assoc, Nat.add_comm 1 k] using this
    simp only [List.length_cons, List.range'_succ, wpOpsIn, ho]
    unfold stepOps at hb
    split at hb
    · cases hb
    · rename_i hw
      rw [wanted_ok A hw, if_neg (by simp)]
      refine ⟨about_fr, ?_⟩
      exact ops_ok hN hS hY hr0 ops Q r (i + 1) hr _ _ hb g _ w (A.put (Rel.undef g) o.dst) R hG K
    · rename_i hw
      rw [wanted_ok A hw, if_pos rfl]
      split at hb
      · rename_i v h1 hv
        refine opR_val hN hS hY A R hG hv fun g' w' u x1 x2 x3 => ?_
        exact ops_ok hN hS hY hr0 ops Q r (i + 1) hr _ _ hb g' _ w' ((A.mono x1.le).put x3 o.dst) x2 (hG.mono x1.le) fun g2 ce ca2 w2 y1 => K g2 ce ca2 w2 (x1.trans y1)
      · rename_i v h1 hv
        cases hb
        exact opR_panic hN hS A R hG hv fun g' w' u x1 x2 x3 => K g' _ ca w' x1 x2 (A.mono x1.le) (.panic _ _ x3)
      · rename_i d hv
        refine opR_defer hr0 A hG hv fun d' hd => ?_
        exact ops_ok hN hS hY hr0 ops Q r (i + 1) hr _ _ hb g _ w (RA.put (a := { a with defs := d :: a.defs }) (ca := { ca with defers := d' :: ca.defers }) ⟨A.tm, hd⟩ (Rel.undef g) o.dst) R hG K
      · cases hb
end

end
end Go.Ab
