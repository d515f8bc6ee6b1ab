/- The shadow machine, a part: calls that are proved by themselves are used as they are; ranges over maps in every order. No condition. -/
import Derived.Test.YtlmhfmlbkaabcaaGreatDoorA3
import Derived.Maps.RangeRun
set_option linter.all false
set_option linter.unusedVariables false
set_option linter.unusedSimpArgs false
/-! A part of the heap under other numbers: a call whose answer is known ahead of time. -/
namespace Go.Ab
open Go
noncomputable section

def allB {α : Type} (f : α → Bool) : List α → Bool
  | [] => true
  | a :: r => (match f a with | true => allB f r | false => false)
theorem allB_iff {α : Type} {f : α → Bool} : ∀ {l : List α}, allB f l = true → ∀ x ∈ l, f x = true
  | [], _, x, hx => by cases hx
  | a :: r, h, x, hx => by
    unfold allB at h
    split at h
    · rename_i ha
      rcases List.mem_cons.1 hx with rfl | hx
      · exact ha
      · exact allB_iff h x hx
    · cases h

/-- It is not too deep, and nothing in it is frozen. -/
def fitV : Nat → AV → Bool
  | 0, _ => false
  | n + 1, a => match a with
    | .iptr .. => false
    | .vsl .. => false
    | .agg cs => allB (fitV n) cs
    | .tup cs => allB (fitV n) cs
    | .func _ f c => (match allB (fitV n) f with | true => allB (fitV n) c | false => false)
    | .iface _ a => fitV n a
    | _ => true
/-- Other numbers. -/
def ren (ρ : Nat → Nat) : Nat → AV → AV
  | 0, a => a
  | n + 1, a => match a with
    | .ptr i o => .ptr (ρ i) o
    | .sl E i o l c => .sl E (ρ i) o l c
    | .map i => .map (ρ i)
    | .yield i => .yield (ρ i)
    | .agg cs => .agg (cs.map (ren ρ n))
    | .tup cs => .tup (cs.map (ren ρ n))
    | .func f x c => .func f (x.map (ren ρ n)) (c.map (ren ρ n))
    | .iface t a => .iface t (ren ρ n a)
    | a => a
theorem ren_sc (ρ : Nat → Nat) : ∀ (n : Nat) (a : AV), (ren ρ n a).sc = a.sc
  | 0, _ => rfl
  | n + 1, a => by cases a <;> rfl
theorem ren_scs (ρ : Nat → Nat) (n : Nat) {cs : List AV} : (∀ x ∈ cs.map (ren ρ n), x.sc = true) ↔ ∀ x ∈ cs, x.sc = true := by
  constructor
  · intro h x hx; rw [← ren_sc ρ n x]; exact h _ (List.mem_map_of_mem hx)
  · intro h x hx
    obtain ⟨y, hy, rfl⟩ := List.mem_map.1 hx
    rw [ren_sc]; exact h y hy

section
variable {g g2 : Gh} {ρ : Nat → Nat}
theorem renL_fwd {f : AV → AV} {p : AV → Bool} (hf : ∀ a v, p a = true → Rel g a v → Rel g2 (f a) v) : ∀ (l : List AV) {vs : List Value}, (∀ x ∈ l, p x = true) → RelL g l vs → RelL g2 (l.map f) vs
  | [], _, _, h => by cases h; exact .nil
  | a :: l, vs, hp, h => by
    cases h with
    | cons _ v _ vs ha t => exact .cons _ v _ vs (hf a v (hp a (by simp)) ha) (renL_fwd hf l (fun x hx => hp x (by simp [hx])) t)
theorem renL_bwd {f : AV → AV} {p : AV → Bool} (hf : ∀ a v, p a = true → Rel g (f a) v → Rel g2 a v) : ∀ (l : List AV) {vs : List Value}, (∀ x ∈ l, p x = true) → RelL g (l.map f) vs → RelL g2 l vs
  | [], _, _, h => by cases h; exact .nil
  | a :: l, vs, hp, h => by
    simp only [List.map_cons] at h
    cases h with
    | cons _ v _ vs ha t => exact .cons a v l vs (hf a v (hp a (by simp)) ha) (renL_bwd hf l (fun x hx => hp x (by simp [hx])) t)

theorem ren_fwd (hφ : ∀ i x, g.φ i = some x → g2.φ (ρ i) = some x) : ∀ (n : Nat) (a : AV) (v : Value), fitV n a = true → Rel g a v → Rel g2 (ren ρ n a) v
  | 0, _, _, h, _ => by cases h
  | n + 1, a, v, h, hr => by
    have ih := ren_fwd hφ n
    cases hr with
    | bool b => exact .bool b
    | int k i => exact .int k i
    | str l => exact .str l
    | nilptr => exact .nilptr
    | ptr id off b o c hh => exact .ptr _ off b o c (hφ _ _ hh)
    | iptr => cases h
    | nilsl => exact .nilsl
    | sl E id off len cap b o c k b' o' hh hk hl ha => exact .sl E _ off len cap b o c k b' o' (hφ _ _ hh) hk hl ha
    | esl b o => exact .esl b o
    | vsl => cases h
    | nilmap => exact .nilmap
    | map id b o c hh => exact .map _ b o c (hφ _ _ hh)
    | func fn first cap f c hf hc =>
      unfold fitV at h
      simp only at h
      split at h
      · rename_i h1
        exact .func fn _ _ f c (renL_fwd ih _ (allB_iff h1) hf) (renL_fwd ih _ (allB_iff h) hc)
      · cases h
    | nilfunc => exact .nilfunc
    | yield id b o c hh => exact .yield _ b o c (hφ _ _ hh)
    | iface t a v hh => exact .iface t _ v (ih _ _ h hh)
    | niliface => exact .niliface
    | agg cs vs hs hh => exact .agg _ vs ((ren_scs ρ n).2 hs) (renL_fwd ih _ (allB_iff h) hh)
    | tup cs vs hh => exact .tup _ vs (renL_fwd ih _ (allB_iff h) hh)
    | raw v => exact .raw v

theorem ren_bwd (hφ : ∀ i x, g.φ (ρ i) = some x → g2.φ i = some x) : ∀ (n : Nat) (a : AV) (v : Value), fitV n a = true → Rel g (ren ρ n a) v → Rel g2 a v
  | 0, _, _, h, _ => by cases h
  | n + 1, a, v, h, hr => by
    have ih := ren_bwd hφ n
    cases a with
    | bool b => cases hr; exact .bool b
    | int k i => cases hr; exact .int k i
    | str l => cases hr; exact .str l
    | nilptr => cases hr; exact .nilptr
    | ptr id off => cases hr with | ptr _ _ b o c hh => exact .ptr id off b o c (hφ _ _ hh)
    | iptr => cases h
    | nilsl => cases hr; exact .nilsl
    | esl => cases hr; exact .esl _ _
    | sl E id off len cap => cases hr with | sl _ _ _ _ _ b o c k b' o' hh hk hl ha => exact .sl E id off len cap b o c k b' o' (hφ _ _ hh) hk hl ha
    | vsl => cases h
    | nilmap => cases hr; exact .nilmap
    | map id => cases hr with | map _ b o c hh => exact .map id b o c (hφ _ _ hh)
    | func fn first cap =>
      unfold fitV at h
      simp only at h
      split at h
      · rename_i h1
        cases hr with | func _ _ _ f c hf hc => exact .func fn _ _ f c (renL_bwd ih _ (allB_iff h1) hf) (renL_bwd ih _ (allB_iff h) hc)
      · cases h
    | nilfunc => cases hr; exact .nilfunc
    | yield id => cases hr with | yield _ b o c hh => exact .yield id b o c (hφ _ _ hh)
    | iface t a => cases hr with | iface _ _ v hh => exact .iface t a v (ih _ _ h hh)
    | niliface => cases hr; exact .niliface
    | agg cs => cases hr with | agg _ vs hs hh => exact .agg cs vs ((ren_scs ρ n).1 hs) (renL_bwd ih _ (allB_iff h) hh)
    | tup cs => cases hr with | tup _ vs hh => exact .tup cs vs (renL_bwd ih _ (allB_iff h) hh)
    | raw v => cases hr; exact .raw v

def fits2 (p : AV × AV) : Bool := match fitV 8 p.1 with | true => fitV 8 p.2 | false => false
def ren2 (ρ : Nat → Nat) (p : AV × AV) : AV × AV := (ren ρ 8 p.1, ren ρ 8 p.2)
def fitsO : AO → Bool
  | .cells cs => allB (fitV 8) cs
  | .map es => allB fits2 es
  | _ => false
def renO (ρ : Nat → Nat) : AO → AO
  | .cells cs => .cells (cs.map (ren ρ 8))
  | .map es => .map (es.map (ren2 ρ))
  | o => o

theorem fits2_iff {es : List (AV × AV)} (h : allB fits2 es = true) : (∀ x ∈ es.map (·.1), fitV 8 x = true) ∧ ∀ x ∈ es.map (·.2), fitV 8 x = true := by
  have h1 := allB_iff h
  constructor <;> intro x hx <;> obtain ⟨p, hp, rfl⟩ := List.mem_map.1 hx <;> have h2 := h1 p hp <;> unfold fits2 at h2 <;> split at h2
  · rename_i h3; exact h3
  · cases h2
  · exact h2
  · cases h2
theorem ren2_fst (ρ : Nat → Nat) (es : List (AV × AV)) : (es.map (ren2 ρ)).map (·.1) = (es.map (·.1)).map (ren ρ 8) := by simp [ren2, Function.comp_def]
theorem ren2_snd (ρ : Nat → Nat) (es : List (AV × AV)) : (es.map (ren2 ρ)).map (·.2) = (es.map (·.2)).map (ren ρ 8) := by simp [ren2, Function.comp_def]

theorem MPerm.mem1 {es' es : List (AV × AV)} (h : MPerm es' es) {x : AV} (hx : x ∈ es'.map (·.1)) : x ∈ es.map (·.1) := by
  rcases h with rfl | ⟨h, _⟩
  · exact hx
  · exact (h.map _).subset hx
theorem MPerm.mem2 {es' es : List (AV × AV)} (h : MPerm es' es) {x : AV} (hx : x ∈ es'.map (·.2)) : x ∈ es.map (·.2) := by
  rcases h with rfl | ⟨h, _⟩
  · exact hx
  · exact (h.map _).subset hx
theorem ren_int (ρ : Nat → Nat) (a : AV) (k : IntKind) (n : Int) : ren ρ 8 a = .int k n ↔ a = .int k n := by
  constructor
  · intro h; cases a <;> simp [ren] at h ⊢ <;> exact h
  · rintro rfl; rfl
theorem IntK.ren (ρ : Nat → Nat) {es : List (AV × AV)} (h : IntK es) : IntK (es.map (ren2 ρ)) := by
  obtain ⟨⟨k, hk⟩, hn⟩ := h
  have e : (es.map (ren2 ρ)).map (·.1) = es.map (·.1) := by
    rw [List.map_map]
    apply List.map_congr_left
    intro p hp
    obtain ⟨n, hn⟩ := hk p hp
    show Ab.ren ρ 8 p.1 = p.1
    rw [hn]; rfl
  refine ⟨⟨k, fun p hp => ?_⟩, e ▸ hn⟩
  obtain ⟨q, hq, rfl⟩ := List.mem_map.1 hp
  obtain ⟨n, hn⟩ := hk q hq
  exact ⟨n, (ren_int ρ _ _ _).2 hn⟩
theorem MPerm.ren (ρ : Nat → Nat) {es' es : List (AV × AV)} (h : MPerm es' es) : MPerm (es'.map (ren2 ρ)) (es.map (ren2 ρ)) := by
  rcases h with rfl | ⟨h, hk⟩
  · exact .inl rfl
  · exact .inr ⟨h.map _, hk.ren ρ⟩
theorem perm_unmap' {α β : Type} {f : α → β} {l1 m : List β} (h : l1.Perm m) : ∀ (l : List α), m = l.map f → ∃ l' : List α, l1 = l'.map f ∧ l'.Perm l := by
  induction h with
  | nil =>
    intro l hm
    cases l with
    | nil => exact ⟨[], rfl, .nil⟩
    | cons a l => cases hm
  | cons x h ih =>
    intro l hm
    cases l with
    | nil => cases hm
    | cons a l =>
      simp only [List.map_cons, List.cons.injEq] at hm
      obtain ⟨rfl, h2⟩ := hm
      obtain ⟨l', rfl, hp⟩ := ih l h2
      exact ⟨a :: l', rfl, hp.cons a⟩
  | swap x y t =>
    intro l hm
    cases l with
    | nil => cases hm
    | cons a l =>
      cases l with
      | nil => simp at hm
      | cons b l =>
        simp only [List.map_cons, List.cons.injEq] at hm
        obtain ⟨rfl, rfl, rfl⟩ := hm
        exact ⟨b :: a :: l, rfl, .swap a b l⟩
  | trans h1 h2 ih1 ih2 =>
    intro l hm
    obtain ⟨l2, e2, hp2⟩ := ih2 l hm
    obtain ⟨l3, e3, hp3⟩ := ih1 l2 e2
    exact ⟨l3, e3, hp3.trans hp2⟩
theorem perm_unmap {α β : Type} {f : α → β} {l1 : List β} {l : List α} (h : l1.Perm (l.map f)) : ∃ l' : List α, l1 = l'.map f ∧ l'.Perm l := perm_unmap' h l rfl
theorem MPerm.unren {ρ : Nat → Nat} {es1 es : List (AV × AV)} (h : MPerm es1 (es.map (ren2 ρ))) : ∃ es', es1 = es'.map (ren2 ρ) ∧ MPerm es' es := by
  rcases h with rfl | ⟨h, ⟨⟨k, hk⟩, hn⟩⟩
  · exact ⟨es, rfl, .inl rfl⟩
  · obtain ⟨es', rfl, hp⟩ := perm_unmap h
    have hk' : ∀ p ∈ es, ∃ n, p.1 = .int k n := fun p hp => by
      obtain ⟨n, hn⟩ := hk (ren2 ρ p) (List.mem_map_of_mem hp)
      exact ⟨n, (ren_int ρ _ _ _).1 hn⟩
    have e : (es.map (ren2 ρ)).map (·.1) = es.map (·.1) := by
      rw [List.map_map]
      apply List.map_congr_left
      intro p hp
      obtain ⟨n, hn⟩ := hk' p hp
      show Ab.ren ρ 8 p.1 = p.1
      rw [hn]; rfl
    exact ⟨es', rfl, .inr ⟨hp, ⟨k, hk'⟩, e ▸ hn⟩⟩

theorem renO_fwd (hφ : ∀ i x, g.φ i = some x → g2.φ (ρ i) = some x) {w : World} {b o c : Nat} {ao : AO} (hf : fitsO ao = true) (h : ObjAt g w b o c ao) : ObjAt g2 w b o c (renO ρ ao) := by
  cases ao with
  | cells cs =>
    obtain ⟨hs, arr, T, lo, hi, vs, h1, h2, h3, h4, h5, h6⟩ := h
    exact ⟨(ren_scs ρ 8).2 hs, arr, T, lo, hi, vs, h1, h2, h3, renL_fwd (ren_fwd hφ 8) _ (allB_iff hf) h4, h5, h6⟩
  | map es =>
    obtain ⟨es', hp, ents, clock, h1, h2, h3, h4⟩ := h
    obtain ⟨f1, f2⟩ := fits2_iff hf
    refine ⟨es'.map (ren2 ρ), hp.ren ρ, ents, clock, h1, ?_, ?_, h4⟩
    · rw [ren2_fst]; exact renL_fwd (ren_fwd hφ 8) _ (fun x hx => f1 x (hp.mem1 hx)) h2
    · rw [ren2_snd]; exact renL_fwd (ren_fwd hφ 8) _ (fun x hx => f2 x (hp.mem2 hx)) h3
  | dfr => cases hf
  | loop => cases hf
theorem renO_bwd (hφ : ∀ i x, g.φ (ρ i) = some x → g2.φ i = some x) {w : World} {b o c : Nat} {ao : AO} (hf : fitsO ao = true) (h : ObjAt g w b o c (renO ρ ao)) : ObjAt g2 w b o c ao := by
  cases ao with
  | cells cs =>
    obtain ⟨hs, arr, T, lo, hi, vs, h1, h2, h3, h4, h5, h6⟩ := h
    exact ⟨(ren_scs ρ 8).1 hs, arr, T, lo, hi, vs, h1, h2, h3, renL_bwd (ren_bwd hφ 8) _ (allB_iff hf) h4, h5, h6⟩
  | map es =>
    obtain ⟨es1, hp1, ents, clock, h1, h2, h3, h4⟩ := h
    obtain ⟨f1, f2⟩ := fits2_iff hf
    obtain ⟨es', rfl, hp⟩ := MPerm.unren hp1
    refine ⟨es', hp, ents, clock, h1, ?_, ?_, h4⟩
    · rw [ren2_fst] at h2; exact renL_bwd (ren_bwd hφ 8) _ (fun x hx => f1 x (hp.mem1 hx)) h2
    · rw [ren2_snd] at h3; exact renL_bwd (ren_bwd hφ 8) _ (fun x hx => f2 x (hp.mem2 hx)) h3
  | dfr => cases hf
  | loop => cases hf
end

/-! ### a heap of a list -/
def H.newO (h : H) : Option AO → H
  | some o => h.new o
  | none => match h with | ⟨n, t⟩ => ⟨n + 1, t⟩
def addAll : List (Option AO) → H → H
  | [], h => h
  | o :: r, h => addAll r (h.newO o)
def mkH (l : List (Option AO)) : H := addAll l H.nil
theorem H.newO_next (h : H) (o : Option AO) : (h.newO o).next = h.next + 1 := by cases o <;> rfl
theorem H.newO_get (h : H) (o : Option AO) (hr : h.next < 32768) (hf : h.get h.next = none) (j : Nat) : (h.newO o).get j = if j = h.next then o else h.get j := by
  cases o with
  | none =>
    show (H.mk (h.next + 1) h.tr).get j = _
    have : (H.mk (h.next + 1) h.tr).get j = h.get j := rfl
    rw [this]
    split
    · rename_i e; rw [e]; exact hf
    · rfl
  | some o =>
    show (h.new o).get j = _
    split
    · rename_i e; rw [e]; exact H.get_new_same h o (Nat.ble_eq_true_of_le hr)
    · rename_i e; exact H.get_new_other h j o (Ne.symm e)
theorem addAll_next : ∀ (l : List (Option AO)) (h : H), (addAll l h).next = h.next + l.length
  | [], h => rfl
  | o :: r, h => by
    show (addAll r (h.newO o)).next = _
    rw [addAll_next r, H.newO_next, List.length_cons]; omega
theorem addAll_get : ∀ (l : List (Option AO)) (h : H), h.next + l.length ≤ 32768 → (∀ j, h.next ≤ j → h.get j = none) → ∀ j, (addAll l h).get j = if j < h.next then h.get j else (l[j - h.next]?).join
  | [], h, _, hf, j => by
    show h.get j = _
    split
    · rfl
    · rename_i hj; rw [hf j (by omega)]; simp
  | o :: r, h, hl, hf, j => by
    rw [List.length_cons] at hl
    have hn := H.newO_get h o (by omega) (hf _ (Nat.le_refl _))
    show (addAll r (h.newO o)).get j = _
    rw [addAll_get r (h.newO o) (by rw [H.newO_next]; omega) (fun j hj => by
      rw [H.newO_next] at hj
      rw [hn, if_neg (by omega)]; exact hf j (by omega)), H.newO_next, hn]
    by_cases h1 : j < h.next
    · rw [if_pos (by omega), if_neg (by omega), if_pos h1]
    · rw [if_neg h1]
      by_cases h2 : j = h.next
      · subst h2; simp
      · rw [if_neg (by omega)]
        have : j - h.next = (j - (h.next + 1)) + 1 := by omega
        rw [this, List.getElem?_cons_succ]
theorem nil_get (j : Nat) : H.nil.get j = none := by
  by_cases hj : j < 32768
  · rw [H.get_lo _ _ hj]; exact T8.get_all (α := Option AO) none 4 j
  · exact H.get_hi _ _ hj
theorem mkH_next (l : List (Option AO)) : (mkH l).next = l.length := by
  unfold mkH; rw [addAll_next]; exact Nat.zero_add _
theorem mkH_get {l : List (Option AO)} (hl : l.length ≤ 32768) (j : Nat) : (mkH l).get j = (l[j]?).join := by
  unfold mkH
  have h0 : H.nil.next = 0 := rfl
  rw [addAll_get l H.nil (by rw [h0]; omega) (fun j _ => nil_get j), h0, if_neg (by omega)]
  rfl

/-! ### a part of the heap -/
def subG (g : Gh) (ρ : Nat → Nat) (k : Nat) : Gh := ⟨fun i => if i < k then g.φ (ρ i) else none, g.I⟩
/-- The same object; or a map of numbers in another order. -/
def OLe (a b : AO) : Prop := a = b ∨ ∃ es es', a = .map es ∧ b = .map es' ∧ MPerm es es'
theorem MPerm.trans {a b c : List (AV × AV)} (h : MPerm a b) (k : MPerm b c) : MPerm a c := by
  rcases h with rfl | ⟨h1, h2⟩
  · exact k
  · rcases k with rfl | ⟨k1, k2⟩
    · exact .inr ⟨h1, h2⟩
    · exact .inr ⟨h1.trans k1, k2⟩
theorem OLe.at {g : Gh} {w : World} {b o c : Nat} {x y : AO} (h : OLe x y) (hx : ObjAt g w b o c x) : ObjAt g w b o c y := by
  rcases h with rfl | ⟨es, es', rfl, rfl, hp⟩
  · exact hx
  · obtain ⟨e1, h1, h2⟩ := hx
    exact ⟨e1, h1.trans hp, h2⟩
structure Part (g : Gh) (h : H) (ρ : Nat → Nat) (l : List (Option AO)) : Prop where
  size : l.length ≤ 32768
  get : ∀ i ao, l[i]? = some (some ao) → fitsO ao = true ∧ ∃ ao', h.get (ρ i) = some ao' ∧ OLe ao' (renO ρ ao)
  inj : ∀ i j, i < l.length → j < l.length → ρ i = ρ j → i = j
  out : ∀ i, l.length ≤ i → g.φ (ρ i) = none

theorem join_some {α : Type} {x : Option (Option α)} {y : α} (h : x.join = some y) : x = some (some y) := by
  cases x with
  | none => cases h
  | some x => cases x with
    | none => cases h
    | some x => cases h; rfl

section
variable {g : Gh} {h : H} {w : World} {ρ : Nat → Nat} {l : List (Option AO)}
theorem Part.φ (p : Part g h ρ l) (i : Nat) (x : Nat × Nat × Nat) (hx : g.φ (ρ i) = some x) : (subG g ρ l.length).φ i = some x := by
  show (if _ then _ else _) = _
  rw [if_pos]
  · exact hx
  · rcases Nat.lt_or_ge i l.length with hi | hi
    · exact hi
    · rw [p.out i hi] at hx; cases hx
theorem subφ {i : Nat} {x : Nat × Nat × Nat} {k : Nat} (hx : (subG g ρ k).φ i = some x) : i < k ∧ g.φ (ρ i) = some x := by
  have hx : (if i < k then g.φ (ρ i) else none) = some x := hx
  split at hx
  · rename_i hi; exact ⟨hi, hx⟩
  · cases hx
theorem Part.own (p : Part g h ρ l) {b : Nat} (ho : own (subG g ρ l.length) (mkH l) b) : ∃ i ao ao' o c, l[i]? = some (some ao) ∧ h.get (ρ i) = some ao' ∧ g.φ (ρ i) = some (b, o, c) := by
  obtain ⟨i, ao, o, c, h1, h2⟩ := ho
  obtain ⟨hi, h3⟩ := subφ h2
  rw [mkH_get p.size] at h1
  have h4 := join_some h1
  obtain ⟨_, ao', h5, _⟩ := p.get i ao h4
  exact ⟨i, ao, ao', o, c, h4, h5, h3⟩
theorem Part.rs (p : Part g h ρ l) (R : RS g h w) : RS (subG g ρ l.length) (mkH l) w := by
  refine ⟨fun i ao b o c h1 h2 => ?_, fun i j a a' b o c o' c' h1 h2 h3 h4 => ?_, fun b i v hI => ?_, fun i hi => ?_, fun i hi => ?_⟩
  · rw [mkH_get p.size] at h1
    obtain ⟨h4, ao', h5, h6⟩ := p.get i ao (join_some h1)
    exact renO_bwd p.φ h4 (h6.at (R.obj _ _ _ _ _ h5 (subφ h2).2))
  · rw [mkH_get p.size] at h1 h2
    obtain ⟨i1, i2⟩ := subφ h3
    obtain ⟨j1, j2⟩ := subφ h4
    obtain ⟨_, _, y1, _⟩ := p.get i _ (join_some h1)
    obtain ⟨_, _, y2, _⟩ := p.get j _ (join_some h2)
    exact p.inj i j i1 j1 (R.disj _ _ _ _ _ _ _ _ _ y1 y2 i2 j2)
  · obtain ⟨h1, h2⟩ := R.imm b i v hI
    refine ⟨h1, fun ho => h2 ?_⟩
    obtain ⟨i, ao, ao', o, c, _, h3, h4⟩ := p.own ho
    exact ⟨_, _, o, c, h3, h4⟩
  · rw [mkH_next] at hi
    refine ⟨?_, ?_⟩
    · show (if _ then _ else _) = none
      rw [if_neg (by omega)]
    · rw [mkH_get p.size, List.getElem?_eq_none hi]; rfl
  · rw [mkH_get p.size] at hi
    rcases Nat.lt_or_ge i l.length with h1 | h1
    · have := p.size; omega
    · rw [List.getElem?_eq_none h1] at hi; exact absurd rfl hi
theorem Part.rel (p : Part g h ρ l) {n : Nat} {a : AV} {v : Value} (hf : fitV n a = true) (hr : Rel g (ren ρ n a) v) : Rel (subG g ρ l.length) a v := ren_bwd p.φ n a v hf hr
end
end
end Go.Ab
/-! A call whose answer is known ahead of time, in a larger heap. -/
namespace Go.Ab
open Go
noncomputable section

def setAll (ρ : Nat → Nat) : Nat → List (Option AO) → H → H
  | _, [], h => h
  | i, o :: r, h => setAll ρ (i + 1) r (h.set (ρ i) o)
theorem H.set_next (h : H) (id : Nat) (o : Option AO) : (h.set id o).next = h.next := by cases h; rfl
theorem setAll_next (ρ : Nat → Nat) : ∀ (l : List (Option AO)) (i : Nat) (h : H), (setAll ρ i l h).next = h.next
  | [], _, _ => rfl
  | o :: r, i, h => (setAll_next ρ r (i + 1) _).trans (H.set_next h _ _)
theorem setAll_other {ρ : Nat → Nat} : ∀ (l : List (Option AO)) (i : Nat) (h : H) (j : Nat), (∀ t, t < l.length → ρ (i + t) ≠ j) → (setAll ρ i l h).get j = h.get j
  | [], _, _, _, _ => rfl
  | o :: r, i, h, j, hj => by
    show (setAll ρ (i + 1) r (h.set (ρ i) o)).get j = _
    rw [setAll_other r (i + 1) _ j (fun t ht => by
      have := hj (t + 1) (by rw [List.length_cons]; omega)
      rwa [show i + 1 + t = i + (t + 1) by omega])]
    exact H.get_set_other h _ j o (hj 0 (by simp))
theorem setAll_same {ρ : Nat → Nat} : ∀ (l : List (Option AO)) (i : Nat) (h : H) (t : Nat), t < l.length → (∀ a b, a < l.length → b < l.length → ρ (i + a) = ρ (i + b) → a = b) → (∀ a, a < l.length → ρ (i + a) < 32768) →
    (setAll ρ i l h).get (ρ (i + t)) = (l[t]?).join
  | [], _, _, t, ht, _, _ => absurd ht (Nat.not_lt_zero _)
  | o :: r, i, h, t, ht, hinj, hlt => by
    rw [List.length_cons] at ht hinj hlt
    show (setAll ρ (i + 1) r (h.set (ρ i) o)).get (ρ (i + t)) = _
    cases t with
    | zero =>
      rw [setAll_other r (i + 1) _ _ (fun t ht e => by
        have := hinj (t + 1) 0 (by omega) (by omega) (by rw [show i + (t + 1) = i + 1 + t by omega]; exact e)
        omega)]
      exact H.get_set_same h _ o (hlt 0 (by omega))
    | succ t =>
      rw [show i + (t + 1) = i + 1 + t by omega]
      rw [setAll_same r (i + 1) _ t (by omega) (fun a b ha hb e => by
        have := hinj (a + 1) (b + 1) (by omega) (by omega) (by rw [show i + (a + 1) = i + 1 + a by omega, show i + (b + 1) = i + 1 + b by omega]; exact e)
        omega) (fun a ha => by have := hlt (a + 1) (by omega); rwa [show i + (a + 1) = i + 1 + a by omega] at this)]
      rfl

def two (ρ : Nat → Nat) (k n : Nat) (i : Nat) : Nat := match Nat.ble (i + 1) k with | true => ρ i | false => n + (i - k)
theorem two_lo {ρ : Nat → Nat} {k n i : Nat} (h : i < k) : two ρ k n i = ρ i := by unfold two; rw [Nat.ble_eq_true_of_le h]
theorem two_hi {ρ : Nat → Nat} {k n i : Nat} (h : k ≤ i) : two ρ k n i = n + (i - k) := by
  unfold two
  cases e : Nat.ble (i + 1) k with
  | true => exact absurd (Nat.le_of_ble_eq_true e) (by omega)
  | false => rfl

/-- What the larger heap comes to. -/
def joinH (ρ : Nat → Nat) (k : Nat) (post : List (Option AO)) (new : List AO) (h : H) : H :=
  addAll (new.map fun a => some (renO (two ρ k h.next) a)) (setAll ρ 0 (post.map (Option.map (renO (two ρ k h.next)))) h)

section
variable {g : Gh} {h : H} {w : World} {ρ : Nat → Nat} {pre : List AO} {post : List (Option AO)} {new : List AO}

theorem joinH_next : (joinH ρ pre.length post new h).next = h.next + new.length := by
  unfold joinH; rw [addAll_next, setAll_next, List.length_map]

theorem embed (R : RS g h w) (p : Part g h ρ (pre.map some)) (hl : post.length = pre.length) (hn : h.next + new.length ≤ 32768) (hm : post.length + new.length ≤ 32768)
    (hfp : ∀ (i : Nat) (ao : AO), post[i]? = some (some ao) → fitsO ao = true) (hfn : ∀ ao ∈ new, fitsO ao = true) {v : AV} (hfv : fitV 8 v = true) {u : Value} {g1 : Gh} {w' : World}
    (X : Ext (subG g ρ pre.length) (mkH (pre.map some)) w g1 (mkH (post ++ new.map some)) w') (R1 : RS g1 (mkH (post ++ new.map some)) w') (hr : Rel g1 v u) :
    ∃ g2, Ext g h w g2 (joinH ρ pre.length post new h) w' ∧ RS g2 (joinH ρ pre.length post new h) w' ∧ Rel g2 (ren (two ρ pre.length h.next) 8 v) u := by
  have hpl : (pre.map some).length = pre.length := List.length_map _
  have pget : ∀ i, i < pre.length → ∃ ao ao' : AO, fitsO ao = true ∧ h.get (ρ i) = some ao' := fun i hi => by
    obtain ⟨y1, ao', y2, _⟩ := p.get i pre[i] (by simp [hi])
    exact ⟨pre[i], ao', y1, y2⟩
  have plt : ∀ i, i < pre.length → ρ i < h.next := fun i hi => by
    obtain ⟨_, ao, _, h1⟩ := pget i hi
    rcases Nat.lt_or_ge (ρ i) h.next with h2 | h2
    · exact h2
    · rw [(R.fresh _ h2).2] at h1; cases h1
  have psm : ∀ i, i < pre.length → ρ i < 32768 := fun i hi => by
    obtain ⟨_, ao, _, h1⟩ := pget i hi
    exact R.small _ (by rw [h1]; simp)
  have pinj : ∀ i j, i < pre.length → j < pre.length → ρ i = ρ j → i = j := fun i j hi hj => p.inj i j (by rw [hpl]; exact hi) (by rw [hpl]; exact hj)
  have R0 := p.rs R
  rw [hpl] at R0
  have own0 : ∀ b, own (subG g ρ pre.length) (mkH (pre.map some)) b → ∃ i ao o c, i < pre.length ∧ h.get (ρ i) = some ao ∧ g.φ (ρ i) = some (b, o, c) := fun b hb => by
    have hb' : own (subG g ρ (pre.map some).length) (mkH (pre.map some)) b := by rw [hpl]; exact hb
    obtain ⟨i, _, ao, o, c, h1, h2, h3⟩ := p.own hb'
    have hi : i < pre.length := by
      rcases Nat.lt_or_ge i pre.length with hi | hi
      · exact hi
      · rw [List.getElem?_eq_none (by rw [hpl]; exact hi)] at h1; cases h1
    exact ⟨i, _, o, c, hi, h2, h3⟩
  let ρ2 := two ρ pre.length h.next
  let g2 : Gh := ⟨fun j => if j < h.next then g.φ j else g1.φ (j - h.next + pre.length), g.I⟩
  have nx0 : (mkH (pre.map some)).next = pre.length := (mkH_next _).trans hpl
  have nx1 : (mkH (post ++ new.map some)).next = pre.length + new.length := by rw [mkH_next, List.length_append, List.length_map, hl]
  have len1 : (post ++ new.map some).length ≤ 32768 := by rw [List.length_append, List.length_map]; exact hm
  have g1lo : ∀ i, i < pre.length → g1.φ i = g.φ (ρ i) := fun i hi => by
    rw [X.old i (by rw [nx0]; exact hi)]
    show (if _ then _ else _) = _
    rw [if_pos hi]
  have g1hi : ∀ i, pre.length + new.length ≤ i → g1.φ i = none := fun i hi => (R1.fresh i (by rw [nx1]; exact hi)).1
  have h1lo : ∀ i, i < pre.length → (mkH (post ++ new.map some)).get i = (post[i]?).join := fun i hi => by
    rw [mkH_get len1, List.getElem?_append_left (by omega)]
  have h1hi : ∀ t, (mkH (post ++ new.map some)).get (pre.length + t) = new[t]? := fun t => by
    rw [mkH_get len1, List.getElem?_append_right (by omega), hl, List.getElem?_map, Nat.add_sub_cancel_left]
    cases new[t]? <;> rfl
  have hφ : ∀ i x, g1.φ i = some x → g2.φ (ρ2 i) = some x := fun i x hx => by
    show (if _ then _ else _) = _
    rcases Nat.lt_or_ge i pre.length with hi | hi
    · have e : ρ2 i = ρ i := two_lo hi
      rw [e, if_pos (plt i hi), ← g1lo i hi]; exact hx
    · have e : ρ2 i = h.next + (i - pre.length) := two_hi hi
      rw [e, if_neg (by omega), show h.next + (i - pre.length) - h.next + pre.length = i by omega]; exact hx
  -- what lies where
  have nx2 : (joinH ρ pre.length post new h).next = h.next + new.length := joinH_next
  have getS : ∀ j, (joinH ρ pre.length post new h).get j = if j < h.next then (setAll ρ 0 (post.map (Option.map (renO ρ2))) h).get j else (new[j - h.next]?).map (renO ρ2) := fun j => by
    unfold joinH
    rw [addAll_get _ _ (by rw [setAll_next, List.length_map]; exact hn) (fun j hj => by
      rw [setAll_next] at hj
      rw [setAll_other _ _ _ _ (fun t ht => by
        rw [List.length_map, hl] at ht
        have := plt t ht
        rw [Nat.zero_add]; omega)]
      exact (R.fresh j hj).2), setAll_next]
    split
    · rfl
    · rw [List.getElem?_map]; cases new[j - h.next]? <;> rfl
  have getA : ∀ i, i < pre.length → (joinH ρ pre.length post new h).get (ρ i) = ((post[i]?).join).map (renO ρ2) := fun i hi => by
    rw [getS, if_pos (plt i hi)]
    have := setAll_same (ρ := ρ) (post.map (Option.map (renO ρ2))) 0 h i (by rw [List.length_map, hl]; exact hi)
      (fun a b ha hb e => by rw [List.length_map, hl] at ha hb; rw [Nat.zero_add, Nat.zero_add] at e; exact pinj a b ha hb e)
      (fun a ha => by rw [List.length_map, hl] at ha; rw [Nat.zero_add]; exact psm a ha)
    rw [Nat.zero_add] at this
    rw [this, List.getElem?_map]
    cases post[i]? with
    | none => rfl
    | some x => cases x <;> rfl
  have getB : ∀ j, j < h.next → (∀ i, i < pre.length → ρ i ≠ j) → (joinH ρ pre.length post new h).get j = h.get j := fun j hj hne => by
    rw [getS, if_pos hj]
    exact setAll_other _ _ _ _ (fun t ht => by rw [List.length_map, hl] at ht; rw [Nat.zero_add]; exact hne t ht)
  have src : ∀ j ao b o c, (joinH ρ pre.length post new h).get j = some ao → g2.φ j = some (b, o, c) →
      (∃ i a0, j = ρ2 i ∧ (mkH (post ++ new.map some)).get i = some a0 ∧ fitsO a0 = true ∧ ao = renO ρ2 a0 ∧ g1.φ i = some (b, o, c)) ∨ ((∀ i, i < pre.length → ρ i ≠ j) ∧ h.get j = some ao ∧ g.φ j = some (b, o, c)) := fun j ao b o c h1 h2 => by
    have h2 : (if j < h.next then g.φ j else g1.φ (j - h.next + pre.length)) = some (b, o, c) := h2
    by_cases hj : j < h.next
    · rw [if_pos hj] at h2
      by_cases hi : ∃ i, i < pre.length ∧ ρ i = j
      · obtain ⟨i, hi, rfl⟩ := hi
        rw [getA i hi] at h1
        obtain ⟨a0, ha, e⟩ := Option.map_eq_some_iff.1 h1
        exact .inl ⟨i, a0, (two_lo hi).symm, (h1lo i hi).trans ha, hfp i a0 (join_some ha), e.symm, (g1lo i hi).trans h2⟩
      · have hne : ∀ i, i < pre.length → ρ i ≠ j := fun i hi' e => hi ⟨i, hi', e⟩
        rw [getB j hj hne] at h1
        exact .inr ⟨hne, h1, h2⟩
    · rw [if_neg hj] at h2
      rw [getS, if_neg hj] at h1
      obtain ⟨a0, ha, e⟩ := Option.map_eq_some_iff.1 h1
      refine .inl ⟨j - h.next + pre.length, a0, ?_, ?_, hfn a0 (List.mem_of_getElem? ha), e.symm, h2⟩
      · have : ρ2 (j - h.next + pre.length) = h.next + (j - h.next + pre.length - pre.length) := two_hi (by omega)
        rw [this]; omega
      · rw [Nat.add_comm]; exact (h1hi _).trans ha
  -- an old object that is not handed is nobody's inside
  have apart : ∀ j ao b o c, (∀ i, i < pre.length → ρ i ≠ j) → h.get j = some ao → g.φ j = some (b, o, c) → ¬ own (subG g ρ pre.length) (mkH (pre.map some)) b := fun j ao b o c hne h1 h2 ho => by
    obtain ⟨i, a0, o', c', hi, h3, h4⟩ := own0 b ho
    exact hne i hi (R.disj _ _ _ _ _ _ _ _ _ h3 h1 h4 h2)
  have own_out : ∀ b, own (subG g ρ pre.length) (mkH (pre.map some)) b → own g h b := fun b hb => by
    obtain ⟨i, a0, o', c', hi, h3, h4⟩ := own0 b hb
    exact ⟨_, _, _, _, h3, h4⟩
  have hle : g.le g2 := by
    refine ⟨fun id x hx => ?_, fun _ _ _ hx => hx⟩
    show (if _ then _ else _) = _
    rw [if_pos]
    · exact hx
    · rcases Nat.lt_or_ge id h.next with h1 | h1
      · exact h1
      · rw [(R.fresh id h1).1] at hx; cases hx
  have own2 : ∀ b, b < w.heap.size → own g2 (joinH ρ pre.length post new h) b → own g h b := fun b hb ⟨j, ao, o, c, h1, h2⟩ => by
    rcases src j ao b o c h1 h2 with ⟨i, a0, _, h3, _, _, h4⟩ | ⟨_, h3, h4⟩
    · exact own_out b (X.own b hb ⟨i, a0, o, c, h3, h4⟩)
    · exact ⟨j, ao, o, c, h3, h4⟩
  refine ⟨g2, ⟨hle, fun id hid => ?_, by rw [nx2]; omega, fun b hb hno => X.fr b hb fun ho => hno (own_out b ho), own2, X.size, X.os, X.tape, X.output⟩, ⟨fun j ao b o c h1 h2 => ?_, fun j j' a a' b o c o' c' h1 h2 h3 h4 => ?_, fun b i v hI => ?_, fun j hj => ?_, fun j hj => ?_⟩, ren_fwd hφ 8 v u hfv hr⟩
  · show (if _ then _ else _) = _
    rw [if_pos hid]
  · rcases src j ao b o c h1 h2 with ⟨i, a0, rfl, h3, h4, rfl, h5⟩ | ⟨hne, h3, h4⟩
    · exact renO_fwd hφ h4 (R1.obj _ _ _ _ _ h3 h5)
    · have h5 := R.obj _ _ _ _ _ h3 h4
      exact h5.mono hle (X.fr b h5.lt (apart j ao b o c hne h3 h4))
  · rcases src j a b o c h1 h3 with ⟨i, a0, rfl, h5, _, _, h7⟩ | ⟨hne, h5, h7⟩ <;> rcases src j' a' b o' c' h2 h4 with ⟨i', a0', rfl, h5', _, _, h7'⟩ | ⟨hne', h5', h7'⟩
    · rw [R1.disj _ _ _ _ _ _ _ _ _ h5 h5' h7 h7']
    · have hb := (R.obj _ _ _ _ _ h5' h7').lt
      exact absurd (X.own b hb ⟨i, a0, _, _, h5, h7⟩) (apart j' a' b _ _ hne' h5' h7')
    · have hb := (R.obj _ _ _ _ _ h5 h7).lt
      exact absurd (X.own b hb ⟨i', a0', _, _, h5', h7'⟩) (apart j a b _ _ hne h5 h7)
    · exact R.disj _ _ _ _ _ _ _ _ _ h5 h5' h7 h7'
  · have hI : g.I b i = some v := hI
    obtain ⟨h1, h2⟩ := R.imm b i v hI
    have hb := lt_of_cell? h1
    exact ⟨(cell?_of_heap i (X.fr b hb fun ho => h2 (own_out b ho))).trans h1, fun ho => h2 (own2 b hb ho)⟩
  · rw [nx2] at hj
    refine ⟨?_, ?_⟩
    · show (if _ then _ else _) = _
      rw [if_neg (by omega)]; exact g1hi _ (by omega)
    · rw [getS, if_neg (by omega), List.getElem?_eq_none (by omega)]; rfl
  · rcases Nat.lt_or_ge j (h.next + new.length) with h1 | h1
    · exact Nat.lt_of_lt_of_le h1 hn
    · rw [getS, if_neg (by omega), List.getElem?_eq_none (by omega)] at hj; exact absurd rfl hj
end
end
end Go.Ab
/-! Cuts: calls that are proved by themselves, and used as they are. -/
namespace Go.Ab
open Go
noncomputable section

/-- No number stands in it. -/
def clo : Nat → AV → Bool
  | 0, _ => false
  | n + 1, a => match a with
    | .ptr .. => false
    | .sl .. => false
    | .map _ => false
    | .yield _ => false
    | .iptr cs _ => allB (clo n) cs
    | .vsl _ l => allB (clo n) l.flatten
    | .agg cs => allB (clo n) cs
    | .tup cs => allB (clo n) cs
    | .func _ f c => (match allB (clo n) f with | true => allB (clo n) c | false => false)
    | .iface _ a => clo n a
    | _ => true
def GClosed (G : Nat → Option (List AV)) : Prop := ∀ b cs, G b = some cs → allB (clo 8) cs = true

section
variable {g g2 : Gh}
theorem cloL {p : AV → Bool} (hf : ∀ a v, p a = true → Rel g a v → Rel g2 a v) : ∀ (l : List AV) {vs : List Value}, (∀ x ∈ l, p x = true) → RelL g l vs → RelL g2 l vs
  | [], _, _, h => by cases h; exact .nil
  | a :: l, vs, hp, h => by
    cases h with
    | cons _ v _ vs ha t => exact .cons _ v _ vs (hf a v (hp a (by simp)) ha) (cloL hf l (fun x hx => hp x (by simp [hx])) t)
theorem clo_rel (hI : ∀ b i v, g.I b i = some v → g2.I b i = some v) : ∀ (n : Nat) (a : AV) (v : Value), clo n a = true → Rel g a v → Rel g2 a v
  | 0, _, _, h, _ => by cases h
  | n + 1, a, v, h, hr => by
    have ih := clo_rel hI n
    have frozen : ∀ {b o : Nat} {vs : List Value}, (∀ i, i < vs.length → g.I b (o + i) = vs[i]?) → ∀ i, i < vs.length → g2.I b (o + i) = vs[i]? := fun hh i hi => by
      have h1 := hh i hi
      rw [List.getElem?_eq_getElem hi] at h1 ⊢
      exact hI _ _ _ h1
    cases hr with
    | bool b => exact .bool b
    | int k i => exact .int k i
    | str l => exact .str l
    | nilptr => exact .nilptr
    | ptr => cases h
    | iptr cs off b o vs hs hh hi => exact .iptr cs off b o vs hs (cloL ih _ (allB_iff h) hh) (frozen hi)
    | nilsl => exact .nilsl
    | sl => cases h
    | esl b o => exact .esl b o
    | vsl E l b o k vs hE hs hh hi hk => exact .vsl E l b o k vs hE hs (cloL ih _ (allB_iff h) hh) (frozen hi) hk
    | nilmap => exact .nilmap
    | map => cases h
    | func fn first cap f c hf hc =>
      unfold clo at h
      simp only at h
      split at h
      · rename_i h1
        exact .func fn _ _ f c (cloL ih _ (allB_iff h1) hf) (cloL ih _ (allB_iff h) hc)
      · cases h
    | nilfunc => exact .nilfunc
    | yield => cases h
    | iface t a v hh => exact .iface t _ v (ih _ _ h hh)
    | niliface => exact .niliface
    | agg cs vs hs hh => exact .agg _ vs hs (cloL ih _ (allB_iff h) hh)
    | tup cs vs hh => exact .tup _ vs (cloL ih _ (allB_iff h) hh)
    | raw v => exact .raw v
theorem GOk.closed {G : Nat → Option (List AV)} (hc : GClosed G) (hI : ∀ b i v, g.I b i = some v → g2.I b i = some v) (h : GOk g G) : GOk g2 G := fun b cs hb => by
  obtain ⟨h1, vs, h2, h3⟩ := h b cs hb
  refine ⟨h1, vs, cloL (clo_rel hI 8) _ (allB_iff (hc b cs hb)) h2, fun i hi => ?_⟩
  have h4 := h3 i hi
  rw [List.getElem?_eq_getElem hi] at h4 ⊢
  exact hI _ _ _ h4
end

/-- A call: its function, its arguments and the memory that it looks at; its answer and what the memory comes to. -/
structure Cut where
  fid : FuncId
  args : List AV
  pre : List AO
  v : AV
  post : List (Option AO)
  new : List AO
def Cut.h0 (e : Cut) : H := mkH (e.pre.map some)
def Cut.all1 (e : Cut) : List (Option AO) := e.post ++ e.new.map some
def Cut.h1 (e : Cut) : H := mkH e.all1
def Cut.Ok (P : Program) (G : Nat → Option (List AV)) (e : Cut) : Prop :=
  ∀ g w vals, RelL g e.args vals → RS g e.h0 w → GOk g G → (∃ fn, P.funcs[e.fid]? = some fn ∧ fn.body.isSome = true) ∧ Calls P e.fid vals.toArray w (FPost g e.h0 w (.ret e.v e.h1))
def fitsOO : Option AO → Bool | none => true | some ao => fitsO ao
def Cut.good (e : Cut) : Bool :=
  match allB (fitV 8) e.args, fitV 8 e.v, allB fitsOO e.post, allB fitsO e.new, Nat.beq e.post.length e.pre.length, Nat.ble (e.post.length + e.new.length) 32768 with
  | true, true, true, true, true, true => true
  | _, _, _, _, _, _ => false
theorem Cut.good_iff {e : Cut} (h : e.good = true) : allB (fitV 8) e.args = true ∧ fitV 8 e.v = true ∧ allB fitsOO e.post = true ∧ allB fitsO e.new = true ∧ e.post.length = e.pre.length ∧ e.post.length + e.new.length ≤ 32768 := by
  unfold Cut.good at h
  split at h
  · rename_i h1 h2 h3 h4 h5 h6
    exact ⟨h1, h2, h3, h4, (beq_iff _ _).1 h5, Nat.le_of_ble_eq_true h6⟩
  · cases h

/-! ### maps of numbers in another order -/
def remP (p : AV × AV) : List (AV × AV) → Option (List (AV × AV))
  | [] => none
  | q :: r => match avEq 8 p.1 q.1, avEq 8 p.2 q.2 with
    | true, true => some r
    | _, _ => (match remP p r with | some l => some (q :: l) | none => none)
theorem remP_ok {p : AV × AV} : ∀ {l r : List (AV × AV)}, remP p l = some r → l.Perm (p :: r)
  | [], _, h => by cases h
  | q :: l, r, h => by
    unfold remP at h
    split at h
    · rename_i h1 h2
      cases h
      have e : p = q := Prod.ext (avEq_eq 8 h1) (avEq_eq 8 h2)
      rw [e]
    · split at h
      · rename_i l' hl
        cases h
        exact ((remP_ok hl).cons q).trans (.swap p q _)
      · cases h
def permEq : List (AV × AV) → List (AV × AV) → Bool
  | [], [] => true
  | p :: es, es2 => (match remP p es2 with | some r => permEq es r | none => false)
  | _, _ => false
theorem permEq_ok : ∀ {es es2 : List (AV × AV)}, permEq es es2 = true → es2.Perm es
  | [], [], _ => .nil
  | [], _ :: _, h => by cases h
  | p :: es, es2, h => by
    unfold permEq at h
    split at h
    · rename_i r hr
      exact (remP_ok hr).trans ((permEq_ok h).cons p)
    · cases h
def isKd (k : IntKind) (p : AV × AV) : Bool := match p.1 with | .int k' _ => ikEq k' k | _ => false
def noKey (a : AV) : List (AV × AV) → Bool | [] => true | q :: r => (match keySame a q.1 with | some false => noKey a r | _ => false)
def distK : List (AV × AV) → Bool | [] => true | p :: r => (match noKey p.1 r with | true => distK r | false => false)
def intKB : List (AV × AV) → Bool
  | [] => true
  | p :: r => match p.1 with | .int k _ => (match allB (isKd k) (p :: r) with | true => distK (p :: r) | false => false) | _ => false
theorem isKd_ok {k : IntKind} {p : AV × AV} (h : isKd k p = true) : ∃ n, p.1 = .int k n := by
  unfold isKd at h
  split at h
  · rename_i k' n hp; exact ⟨n, by rw [hp, ikEq_eq h]⟩
  · cases h
theorem noKey_ok {k : IntKind} {n : Int} : ∀ {l : List (AV × AV)}, noKey (.int k n) l = true → AV.int k n ∉ l.map (·.1)
  | [], _, h => by cases h
  | q :: r, hb, h => by
    unfold noKey at hb
    split at hb
    · rename_i hs
      simp only [List.map_cons, List.mem_cons] at h
      rcases h with h | h
      · rw [← h] at hs
        unfold keySame at hs
        simp only at hs
        split at hs
        · have : iEq n n = true := (iEq_iff _ _).2 rfl
          rw [this] at hs; cases hs
        · cases hs
      · exact noKey_ok hb h
    · cases hb
theorem distK_ok {k : IntKind} : ∀ {l : List (AV × AV)}, (∀ p ∈ l, ∃ n, p.1 = .int k n) → distK l = true → (l.map (·.1)).Nodup
  | [], _, _ => by simp
  | p :: r, hk, hb => by
    unfold distK at hb
    split at hb
    · rename_i h1
      obtain ⟨n, hn⟩ := hk p (by simp)
      rw [hn] at h1
      rw [List.map_cons, List.nodup_cons, hn]
      exact ⟨noKey_ok h1, distK_ok (fun q hq => hk q (by simp [hq])) hb⟩
    · cases hb
theorem intKB_ok {l : List (AV × AV)} (h : intKB l = true) : IntK l := by
  cases l with
  | nil => exact ⟨⟨.i64, by simp⟩, by simp⟩
  | cons p r =>
    simp only [intKB] at h
    split at h
    · rename_i k n hp
      split at h
      · rename_i h1
        have hk : ∀ q ∈ p :: r, ∃ n, q.1 = .int k n := fun q hq => isKd_ok (allB_iff h1 q hq)
        exact ⟨⟨k, hk⟩, distK_ok hk h⟩
      · cases h
    · cases h
def mapEq : AO → AO → Bool
  | .map es, .map es2 => (match intKB es with | true => permEq es es2 | false => false)
  | _, _ => false
theorem mapEq_ok {a b : AO} (h : mapEq a b = true) : OLe b a := by
  unfold mapEq at h
  split at h
  · split at h
    · rename_i h1
      exact .inr ⟨_, _, rfl, rfl, .inr ⟨permEq_ok h, intKB_ok h1⟩⟩
    · cases h
  · cases h

/-- Do these objects lie there, under these numbers, which rise? -/
def chk1 (ρ : Nat → Nat) (h : H) (id : Nat) : Option AO → Bool
  | none => true
  | some ao => match fitsO ao, h.get id with | true, some ao' => (match aoEq (renO ρ ao) ao' with | true => true | false => mapEq (renO ρ ao) ao') | _, _ => false
def chk (ρ : Nat → Nat) (h : H) : Nat → Nat → List (Option AO) → Bool
  | _, _, [] => true
  | i, lo, o :: r => match Nat.ble lo (ρ i), chk1 ρ h (ρ i) o with
    | true, true => chk ρ h (i + 1) (ρ i + 1) r
    | _, _ => false
theorem chk_ok {ρ : Nat → Nat} {h : H} : ∀ (l : List (Option AO)) (i lo : Nat), chk ρ h i lo l = true →
    (∀ t ao, l[t]? = some (some ao) → fitsO ao = true ∧ ∃ ao', h.get (ρ (i + t)) = some ao' ∧ OLe ao' (renO ρ ao)) ∧ (∀ t, t < l.length → lo ≤ ρ (i + t)) ∧ (∀ s t, s < t → t < l.length → ρ (i + s) < ρ (i + t))
  | [], i, lo, _ => ⟨fun t ao ht => by simp at ht, fun t ht => absurd ht (Nat.not_lt_zero _), fun s t _ ht => absurd ht (Nat.not_lt_zero _)⟩
  | o :: r, i, lo, hb => by
    unfold chk at hb
    split at hb
    · rename_i h1 h2
      obtain ⟨k1, k2, k3⟩ := chk_ok r (i + 1) (ρ i + 1) hb
      have e : ∀ t, i + 1 + t = i + (t + 1) := fun t => by omega
      refine ⟨fun t ao ht => ?_, fun t ht => ?_, fun s t hs ht => ?_⟩
      · cases t with
        | zero =>
          simp at ht
          subst ht
          unfold chk1 at h2
          simp only at h2
          split at h2
          · rename_i ao' h3 h4
            refine ⟨h3, ao', h4, ?_⟩
            split at h2
            · rename_i h5; exact .inl (aoEq_eq h5).symm
            · exact mapEq_ok h2
          · cases h2
        | succ t =>
          rw [List.getElem?_cons_succ] at ht
          rw [← e]; exact k1 t ao ht
      · cases t with
        | zero => exact Nat.le_of_ble_eq_true h1
        | succ t =>
          have h4 := Nat.le_of_ble_eq_true h1
          have h5 := k2 t (by rw [List.length_cons] at ht; omega)
          rw [e] at h5; omega
      · cases t with
        | zero => omega
        | succ t =>
          rw [List.length_cons] at ht
          cases s with
          | zero => have h5 := k2 t (by omega); rw [e] at h5; exact h5
          | succ s => have h5 := k3 s t (by omega) (by omega); rw [e, e] at h5; exact h5
    · cases hb

def treeOf : List Nat → Nat → N8 (N8 (N8 (N8 (N8 Nat)))) → N8 (N8 (N8 (N8 (N8 Nat))))
  | [], _, t => t
  | x :: r, i, t => treeOf r (i + 1) (set5 t i x)
/-- The numbers of a list; behind it n. -/
def sub (t : N8 (N8 (N8 (N8 (N8 Nat))))) (k n i : Nat) : Nat := match Nat.ble (i + 1) k with | true => get5 t i | false => n
theorem sub_hi {t : N8 (N8 (N8 (N8 (N8 Nat))))} {k n i : Nat} (h : k ≤ i) : sub t k n i = n := by
  unfold sub
  cases e : Nat.ble (i + 1) k with
  | true => exact absurd (Nat.le_of_ble_eq_true e) (by omega)
  | false => rfl
def tree (ids : List Nat) : N8 (N8 (N8 (N8 (N8 Nat)))) := treeOf ids 0 (T8.all 0 4 : T8 Nat 4)

/-- The call, where it is met. -/
def cutAt (e : Cut) (ρ : Nat → Nat) (args : List AV) (h : H) : RF :=
  match lEq (avEq 8) (e.args.map (ren ρ 8)) args, chk ρ h 0 0 (e.pre.map some), Nat.ble (h.next + e.new.length) 32768 with
  | true, true, true => .ret (ren (two ρ e.pre.length h.next) 8 e.v) (joinH ρ e.pre.length e.post e.new h)
  | _, _, _ => .fail
def cutF (e : Cut) (ids : List Nat) (f : FuncId) (args : List AV) (h : H) : RF :=
  match Nat.beq f e.fid with
  | true => cutAt e (sub (tree ids) e.pre.length h.next) args h
  | false => .fail

section
variable {P : Program} {G : Nat → Option (List AV)}
theorem cut_sound (hG : GClosed G) {e : Cut} (hgood : e.good = true) (hok : e.Ok P G) (ids : List Nat) : FSound P G (cutF e ids) := by
  intro fid args h r hb hne g w vals hr R hGk
  obtain ⟨f1, f2, f3, f4, f5, f6⟩ := e.good_iff hgood
  unfold cutF at hb
  split at hb
  · rename_i hfid
    have hfid := (beq_iff _ _).1 hfid
    subst hfid
    unfold cutAt at hb
    split at hb
    · rename_i h1 h2 h3
      subst hb
      obtain ⟨ρ, hρ⟩ : ∃ ρ, sub (tree ids) e.pre.length h.next = ρ := ⟨_, rfl⟩
      rw [hρ] at h1 h2 ⊢
      obtain ⟨c1, c2, c3⟩ := chk_ok _ _ _ h2
      have hlen : (e.pre.map some).length = e.pre.length := List.length_map _
      have p : Part g h ρ (e.pre.map some) := by
        refine ⟨by rw [hlen]; omega, fun i ao hi => ?_, fun i j hi hj hij => ?_, fun i hi => ?_⟩
        · have := c1 i ao hi; rwa [Nat.zero_add] at this
        · rcases Nat.lt_trichotomy i j with hlt | heq | hlt
          · have := c3 i j hlt hj; rw [Nat.zero_add, Nat.zero_add, hij] at this; exact absurd this (Nat.lt_irrefl _)
          · exact heq
          · have := c3 j i hlt hi; rw [Nat.zero_add, Nat.zero_add, hij] at this; exact absurd this (Nat.lt_irrefl _)
        · rw [hlen] at hi
          rw [← hρ, sub_hi hi]; exact (R.fresh _ (Nat.le_refl _)).1
      have hargs : RelL (subG g ρ e.pre.length) e.args vals := by
        have e1 := lEq_eq (fun _ _ => avEq_eq 8) h1
        rw [← e1] at hr
        rw [← hlen]
        exact renL_bwd (fun a v hp hv => p.rel hp hv) _ (allB_iff f1) hr
      have R0 : RS (subG g ρ e.pre.length) e.h0 w := by have := p.rs R; rwa [hlen] at this
      have G0 : GOk (subG g ρ e.pre.length) G := GOk.closed (g := g) hG (fun _ _ _ hh => hh) hGk
      obtain ⟨hfn, hC⟩ := hok _ w vals hargs R0 G0
      refine ⟨hfn, hC.mono fun en w' hh => ?_⟩
      obtain ⟨g1, u, rfl, X, R1, hv⟩ := hh
      obtain ⟨g2, x1, x2, x3⟩ := embed R p f5 (Nat.le_of_ble_eq_true h3) f6 (fun i ao hi => by
        have := allB_iff f3 (some ao) (List.mem_of_getElem? hi); exact this) (allB_iff f4) f2 X R1 hv
      exact ⟨g2, u, rfl, x1, x2, x3⟩
    · exact absurd hb.symm hne
  · exact absurd hb.symm hne

/-- A cut is proved: the machine comes to it. -/
def provA (e : Cut) (σ : Nat → Nat) (v : AV) (h : H) : Bool :=
  match avEq 8 (ren σ 8 e.v) v, chk σ h 0 0 e.all1 with | true, true => true | _, _ => false
def sig (e : Cut) (ids : List Nat) (n i : Nat) : Nat := match Nat.ble (i + 1) e.pre.length with | true => i | false => sub (tree ids) e.new.length n (i - e.pre.length)
def Cut.proves (e : Cut) (ids : List Nat) (F : FuncId → List AV → H → RF) : Bool :=
  match e.good, F e.fid e.args e.h0 with
  | true, .ret v h => provA e (sig e ids h.next) v h
  | _, _ => false
theorem Cut.post_of (e : Cut) {ids : List Nat} (hgood : e.good = true) {v : AV} {h : H} (hb : provA e (sig e ids h.next) v h = true) {g : Gh} {w : World} (R : RS g e.h0 w) {en : Ending} {w' : World} (hh : FPost g e.h0 w (.ret v h) en w') : FPost g e.h0 w (.ret e.v e.h1) en w' := by
  obtain ⟨f1, f2, f3, f4, f5, f6⟩ := e.good_iff hgood
  obtain ⟨σ, hσ⟩ : ∃ σ : Nat → Nat, (sig e ids h.next) = σ := ⟨_, rfl⟩
  rw [hσ] at hb
  have σlo : ∀ i, i < e.pre.length → σ i = i := fun i hi => by rw [← hσ]; unfold sig; rw [Nat.ble_eq_true_of_le hi]
  have σhi : ∀ i, e.pre.length + e.new.length ≤ i → σ i = h.next := fun i hi => by
    rw [← hσ]; unfold sig
    cases hc : Nat.ble (i + 1) e.pre.length with
    | true => exact absurd (Nat.le_of_ble_eq_true hc) (by omega)
    | false => exact sub_hi (by omega)
  unfold provA at hb
  split at hb
  · rename_i h1 h2
    have e1 := avEq_eq 8 h1
    obtain ⟨c1, c2, c3⟩ := chk_ok _ _ _ h2
    have hlen : e.all1.length = e.pre.length + e.new.length := by unfold Cut.all1; rw [List.length_append, List.length_map, f5]
    have nx0 : e.h0.next = e.pre.length := by unfold Cut.h0; rw [mkH_next, List.length_map]
    have nx1 : e.h1.next = e.pre.length + e.new.length := by unfold Cut.h1; rw [mkH_next, hlen]
    obtain ⟨g1, u, rfl, X, R1, hv⟩ := hh
    have p : Part g1 h σ e.all1 := by
      refine ⟨by rw [hlen]; omega, fun i ao hi => ?_, fun i j hi hj hij => ?_, fun i hi => ?_⟩
      · have := c1 i ao hi; rwa [Nat.zero_add] at this
      · rcases Nat.lt_trichotomy i j with hlt | heq | hlt
        · have := c3 i j hlt hj; rw [Nat.zero_add, Nat.zero_add, hij] at this; exact absurd this (Nat.lt_irrefl _)
        · exact heq
        · have := c3 j i hlt hi; rw [Nat.zero_add, Nat.zero_add, hij] at this; exact absurd this (Nat.lt_irrefl _)
      · rw [hlen] at hi
        rw [σhi i hi]; exact (R1.fresh _ (Nat.le_refl _)).1
    have φlo : ∀ id, id < e.pre.length → (subG g1 σ e.all1.length).φ id = g1.φ id := fun id hid => by
      show (if _ then _ else _) = _
      rw [if_pos (by rw [hlen]; omega), σlo id hid]
    refine ⟨subG g1 σ e.all1.length, u, rfl, ⟨⟨fun id x hx => ?_, fun _ _ _ hx => X.le.I _ _ _ hx⟩, fun id hid => ?_, by rw [nx0, nx1]; omega, X.fr, fun b hb ho => ?_, X.size, X.os, X.tape, X.output⟩, p.rs R1, p.rel f2 (e1 ▸ hv)⟩
    · have hid : id < e.pre.length := by
        rcases Nat.lt_or_ge id e.pre.length with h3 | h3
        · exact h3
        · rw [(R.fresh id (by rw [nx0]; exact h3)).1] at hx; cases hx
      rw [φlo id hid]; exact X.le.φ _ _ hx
    · rw [nx0] at hid
      rw [φlo id hid]; exact X.old id (by rw [nx0]; exact hid)
    · obtain ⟨i, _, ao, o, c, h3, h4, h5⟩ := p.own ho
      exact X.own b hb ⟨_, _, o, c, h4, h5⟩
  · cases hb

theorem Cut.ok_of (e : Cut) {ids : List Nat} {F : FuncId → List AV → H → RF} (hF : FSound P G F) (hb : e.proves ids F = true) : e.good = true ∧ e.Ok P G := by
  unfold Cut.proves at hb
  split at hb
  · rename_i v h hgood hf
    refine ⟨hgood, fun g w vals hr R hGk => ?_⟩
    obtain ⟨hfn, hC⟩ := hF _ _ _ _ hf (by simp) g w vals hr R hGk
    exact ⟨hfn, hC.mono fun en w' hh => e.post_of hgood hb R hh⟩
  · cases hb

/-- A list of what is known. -/
def firstK : List (FuncId → List AV → H → RF) → FuncId → List AV → H → RF
  | [], _, _, _ => .fail
  | k :: r, f, args, h => match k f args h with | .fail => firstK r f args h | x => x
theorem firstK_ok : ∀ {l : List (FuncId → List AV → H → RF)}, (∀ k ∈ l, FSound P G k) → FSound P G (firstK l)
  | [], _ => fun _ _ _ _ hb hn => absurd hb.symm hn
  | k :: r, hl => fun fid args h x hb hn => by
    unfold firstK at hb
    split at hb
    · exact firstK_ok (fun k hk => hl k (by simp [hk])) _ _ _ _ hb hn
    · exact hl k (by simp) _ _ _ _ hb hn
def maskK (m : Nat) (K : FuncId → List AV → H → RF) (f : FuncId) (args : List AV) (h : H) : RF :=
  match Nat.beq (Nat.land 1 (Nat.shiftRight m f)) 1 with | true => K f args h | false => .fail
theorem maskK_ok {m : Nat} {K : FuncId → List AV → H → RF} (hK : FSound P G K) : FSound P G (maskK m K) := by
  intro fid args h x hb hn
  unfold maskK at hb
  split at hb
  · exact hK _ _ _ _ hb hn
  · exact absurd hb.symm hn
end
end
end Go.Ab
/-! A range over a map: every order. -/
namespace Go.Ab
open Go
noncomputable section

section
variable {g : Gh} {h : H} {w : World}
theorem no_imm {b : Nat} (R : RS g h w) {o : Obj} (hb : w.heap[b]? = some o) (hc : ∀ arr T bs, o ≠ .cells arr T bs) (i : Nat) (v : Value) : g.I b i = some v → False := fun hI => by
  have h1 := (R.imm b i v hI).1
  unfold World.cell? at h1
  rw [hb] at h1
  cases o <;> first | (exact hc _ _ _ rfl) | (simp at h1)

/-- A dead object lives again. -/
theorem RS.revive (R : RS g h w) {m mb o c : Nat} {ao : AO} (hm : m < h.next) (hsm : m < 32768) (hφ : g.φ m = some (mb, o, c)) (hno : ¬ own g h mb) (hI : ∀ i v, g.I mb i = some v → False)
    (hc : ObjAt g w mb o c ao) : RS g (h.set m (some ao)) w := by
  have old : ∀ j a, j ≠ m → (h.set m (some ao)).get j = some a → h.get j = some a := fun j a hj hg => by rw [H.get_set_other h m j _ (Ne.symm hj)] at hg; exact hg
  refine ⟨fun j a b' o' c' hg h1 => ?_, fun j j' a a' b1 o1 c1 o2 c2 h1 h2 h3 h4 => ?_, fun b' i v hIv => ?_, fun j hj => ?_, fun j hj => ?_⟩
  · by_cases hj : j = m
    · subst hj; rw [H.get_set_same h j _ hsm] at hg; cases hg; rw [hφ] at h1; cases h1; exact hc
    · exact R.obj j a _ _ _ (old j a hj hg) h1
  · by_cases hj : j = m <;> by_cases hj' : j' = m
    · rw [hj, hj']
    · subst hj; rw [hφ] at h3; cases h3; exact absurd ⟨j', a', _, _, old j' a' hj' h2, h4⟩ hno
    · subst hj'; rw [hφ] at h4; cases h4; exact absurd ⟨j, a, _, _, old j a hj h1, h3⟩ hno
    · exact R.disj j j' a a' _ _ _ _ _ (old _ _ hj h1) (old _ _ hj' h2) h3 h4
  · obtain ⟨h1, h2⟩ := R.imm b' i v hIv
    refine ⟨h1, fun ⟨j, a, o', c', h3, h4⟩ => ?_⟩
    by_cases hj : j = m
    · subst hj; rw [hφ] at h4; cases h4; exact hI i v hIv
    · exact h2 ⟨j, a, o', c', old j a hj h3, h4⟩
  · rw [H.set_next] at hj
    have hne : m ≠ j := by omega
    exact ⟨(R.fresh j hj).1, (H.get_set_other h m j _ hne).trans (R.fresh j hj).2⟩
  · by_cases e : j = m
    · exact e ▸ hsm
    · rw [H.get_set_other h m j _ (Ne.symm e)] at hj; exact R.small j hj

/-- A new block that is no object's: its number points there. -/
theorem RS.addDead {w' : World} (R : RS g h w) {r : Nat} (hr : h.next < 32768) (hfr : ∀ b', b' < w.heap.size → w'.heap[b']? = w.heap[b']?) : RS (g.add h.next (r, 0, 0)) (h.newO none) w' := by
  have hf := R.fresh h.next (Nat.le_refl _)
  have hle : g.le (g.add h.next (r, 0, 0)) := Gh.le_add hf.1
  have hget : ∀ j, (h.newO none).get j = h.get j := fun j => by
    rw [H.newO_get h none hr hf.2]
    split
    · rename_i e; rw [e, hf.2]
    · rfl
  have hφ : ∀ j a x, h.get j = some a → (g.add h.next (r, 0, 0)).φ j = some x → g.φ j = some x := fun j a x hg hx => by
    have : j ≠ h.next := fun e => by rw [e, hf.2] at hg; cases hg
    simpa [Gh.add, this] using hx
  refine ⟨fun j a b' o' c' hg h1 => ?_, fun j j' a a' b1 o1 c1 o2 c2 h1 h2 h3 h4 => ?_, fun b' i v hIv => ?_, fun j hj => ?_, fun j hj => ?_⟩
  · rw [hget] at hg
    have h2 := R.obj j a _ _ _ hg (hφ j a _ hg h1)
    exact h2.mono hle (hfr b' h2.lt)
  · rw [hget] at h1 h2
    exact R.disj j j' a a' _ _ _ _ _ h1 h2 (hφ j a _ h1 h3) (hφ j' a' _ h2 h4)
  · have hIv : g.I b' i = some v := hIv
    obtain ⟨h1, h2⟩ := R.imm b' i v hIv
    refine ⟨(cell?_of_heap i (hfr b' (lt_of_cell? h1))).trans h1, fun ⟨j, a, o', c', h3, h4⟩ => ?_⟩
    rw [hget] at h3
    exact h2 ⟨j, a, o', c', h3, hφ j a _ h3 h4⟩
  · rw [H.newO_next] at hj
    refine ⟨?_, (hget j).trans (R.fresh j (by omega)).2⟩
    have : j ≠ h.next := by omega
    simp [Gh.add, this, (R.fresh j (by omega)).1]
  · rw [hget] at hj; exact R.small j hj
end

/-- The iterator and the map lie apart from the heap. -/
structure It (g : Gh) (h : H) (w : World) (it r mb : Nat) (X Y : Obj) : Prop where
  φ : g.φ it = some (r, 0, 0)
  X : w.heap[r]? = some X
  Y : w.heap[mb]? = some Y
  nr : ¬ own g h r
  nm : ¬ own g h mb
theorem It.ext {g g' : Gh} {h h' : H} {w w' : World} {it r mb : Nat} {X Y : Obj} (i : It g h w it r mb X Y) (x : Ext g h w g' h' w') : It g' h' w' it r mb X Y := by
  have hr : r < w.heap.size := (Array.getElem?_eq_some_iff.1 i.X).1
  have hm : mb < w.heap.size := (Array.getElem?_eq_some_iff.1 i.Y).1
  exact ⟨x.le.φ _ _ i.φ, (x.fr r hr i.nr).trans i.X, (x.fr mb hm i.nm).trans i.Y, fun ho => i.nr (x.own r hr ho), fun ho => i.nm (x.own mb hm ho)⟩

section
variable (T : TypeId → Option TI) (G : Nat → Option (List AV)) (S : Self)
def isEnt (it : Nat) (e : Operand → AV) (o : Oper) : Bool := match o.op with | .entry x => (match e x with | .ptr i 0 => Nat.beq i it | _ => false) | _ => false
def entOp (o : Oper) : Bool := match o.op with | .entry _ => true | _ => false
def hasEnt : List Oper → Bool | [] => false | o :: r => (match entOp o with | true => true | false => hasEnt r)
def entOps (it : Nat) (k v : AV) (ops : List Oper) : List Oper → AcA → H → RC
  | [], a, h => .ok .normal a h
  | o :: r, a, h => match wantedA ops o a.tmps with
    | none => .fail
    | some false => entOps it k v ops r (a.put o.dst undefA) h
    | some true => match isEnt it (ev G a.tmps) o with
      | true => entOps it k v ops r (a.put o.dst (.tup [k, v])) h
      | false => match isPlain o, opA T (ev G a.tmps) h o.op with
        | true, some (x, h) => entOps it k v ops r (a.put o.dst x) h
        | _, _ => .fail
def entC (it : Nat) (k v : AV) : Code → AcA → H → RC
  | .seq x y, a, h => (match entC it k v x a h with
    | .ok .normal a h => entC it k v y a h
    | r => r)
  | .block id b, a, h => (match entC it k v b a h with
    | .ok (.exit i) a h => (match Nat.beq i id with | true => .ok .normal a h | false => .ok (.exit i) a h)
    | r => r)
  | .region id ops d, a, h => (match d, hasEnt ops.toList with
    | false, true => entOps T G it k v ops.toList ops.toList a h
    | d, _ => S.c false (.region id ops d) a h)
  | c, a, h => S.c false c a h
end

section
variable {P : Program} {G : Nat → Option (List AV)} {S : Self}

section
variable {it r mb : Nat} {X Y : Obj} {key val : Value} (hE : ∀ w : World, w.heap[r]? = some X → w.heap[mb]? = some Y → (Instr.entry (.pointer (some ⟨r, 0, none⟩))).run P w = .ok (.tuple #[key, val]) w)
include hE
theorem entOps_ok {k v : AV} {ops : Array Oper} : ∀ (l : List Oper) (i : Nat), (∀ j, l[j]? = ops[i + j]?) → ∀ (a : AcA) (h : H) {e : ExA} {a' : AcA} {h' : H}, entOps (tiOf P) G it k v ops.toList l a h = .ok e a' h' →
    ∀ g ca w, RA g a ca → RS g h w → GOk g G → It g h w it r mb X Y → Rel g k key → Rel g v val → ∀ Q : Exit → Act → World → Prop,
    (∀ g' ce ca' w', Ext g h w g' h' w' → RS g' h' w' → RA g' a' ca' → RelE g' e ce → Q ce ca' w') → wpOpsIn (Fr none) 0 P ops Q (List.range' i l.length) ca w
  | [], i, _, a, h, e, a', h', hb, g, ca, w, A, R, hG, I, hk, hv, Q, K => by
    cases hb
    exact K g .normal ca w (.refl g h w) R A .normal
  | o :: l, i, hl, a, h, e, a', h', hb, g, ca, w, A, R, hG, I, hk, hv, Q, K => by
    have ho : ops[i]? = some o := by have := hl 0; simpa using this.symm
    have hl' : ∀ j, l[j]? = ops[i + 1 + j]? := fun j => by
      have := hl (j + 1)
      rw [List.getElem?_cons_succ] at this
      rw [this, show i + (j + 1) = i + 1 + j by omega]
    rw [List.length_cons, List.range'_succ]
    unfold wpOpsIn
    rw [ho]
    simp only
    unfold entOps at hb
    split at hb
    · cases hb
    · rename_i hw
      rw [wanted_ok A hw, if_neg (by simp)]
      refine ⟨about_fr, ?_⟩
      exact entOps_ok l (i + 1) hl' _ h hb g _ w (A.put (Rel.undef g) o.dst) R hG I hk hv Q K
    · rename_i hw
      rw [wanted_ok A hw, if_pos rfl]
      split at hb
      · rename_i hr
        refine ⟨about_fr, ?_⟩
        unfold isEnt at hr
        split at hr
        · rename_i x hx
          split at hr
          · rename_i j hj
            have hj' := (beq_iff _ _).1 hr
            have hxv := ev_ok hG A x
            rw [hj, hj'] at hxv
            generalize hq : ca.eval x = q at hxv
            cases hxv with
            | ptr _ _ b o0 c hφ =>
              rw [I.φ] at hφ
              cases hφ
              rw [Oper.semAt_eq _ _ _ (fun c' e => by rw [hx] at e; cases e)]
              have hrun : (execOp ca.eval o).run P w = .ok (.value (.tuple #[key, val])) w := by
                unfold execOp
                simp only [hx, hq, Nat.add_zero, Sem.run_bind, hE w I.X I.Y, Result.andThen_ok, Sem.run_pure]
              rw [hrun, Oper.uponIn_value]
              exact entOps_ok l (i + 1) hl' _ h hb g _ w (A.put (.tup [k, v] [key, val] (.cons _ _ _ _ hk (.cons _ _ _ _ hv .nil))) o.dst) R hG I hk hv Q K
          · cases hr
        · cases hr
      · split at hb
        · rename_i x h1 hp ho'
          have hnd : ∀ c, o.op ≠ .defer c := fun c e => by unfold isPlain at hp; rw [e] at hp; cases hp
          obtain ⟨u, w', g', h1, h2, h3, h4⟩ := op_ok (P := P) (o := o) R (ev_ok hG A) ho'
          refine ⟨about_fr, ?_⟩
          rw [Oper.semAt_eq _ _ _ hnd]
          have K' := fun (g2 : Gh) (ce : Exit) (ca2 : Act) (w2 : World) (y1 : Ext g' _ w' g2 h' w2) => K g2 ce ca2 w2 (h2.trans y1)
          rcases h1 with h1 | ⟨h1, rfl⟩
          · rw [h1, Oper.uponIn_value]
            exact entOps_ok l (i + 1) hl' _ _ hb g' _ w' ((A.mono h2.le).put h4 o.dst) h3 (hG.mono h2.le) (I.ext h2) (hk.mono h2.le) (hv.mono h2.le) Q K'
          · rw [h1, Oper.uponIn_skip]
            exact entOps_ok l (i + 1) hl' _ _ hb g' _ w' ((A.mono h2.le).put h4 o.dst) h3 (hG.mono h2.le) (I.ext h2) (hk.mono h2.le) (hv.mono h2.le) Q K'
        · cases hb

theorem entC_ok (hS : CSound P G S.c) {k v : AV} : ∀ (c : Code) (a : AcA) (h : H) {e : ExA} {a' : AcA} {h' : H}, entC (tiOf P) G S it k v c a h = .ok e a' h' →
    ∀ g ca w, RA g a ca → RS g h w → GOk g G → It g h w it r mb X Y → Rel g k key → Rel g v val → ∀ Q : Exit → Act → World → Prop,
    (∀ g' ce ca' w', Ext g h w g' h' w' → RS g' h' w' → RA g' a' ca' → RelE g' e ce → Q ce ca' w') → c.wpIn (Fr none) 0 P Q ca w := by
  have other : ∀ (c : Code) (a : AcA) (h : H) {e : ExA} {a' : AcA} {h' : H}, S.c false c a h = .ok e a' h' →
    ∀ g ca w, RA g a ca → RS g h w → GOk g G → It g h w it r mb X Y → Rel g k key → Rel g v val → ∀ Q : Exit → Act → World → Prop,
    (∀ g' ce ca' w', Ext g h w g' h' w' → RS g' h' w' → RA g' a' ca' → RelE g' e ce → Q ce ca' w') → c.wpIn (Fr none) 0 P Q ca w :=
    fun c a h _ _ _ hb g ca w A R hG _ _ _ Q K => hS false c a h _ _ _ hb none rfl g ca w A R hG Q K
  intro c
  induction c with
  | seq x y ihx ihy =>
    intro a h e a' h' hb g ca w A R hG I hk hv Q K
    unfold entC at hb
    refine wpIn_seq ?_
    cases hx : entC (tiOf P) G S it k v x a h with
    | fail => rw [hx] at hb; cases hb
    | ok e1 a1 h1 =>
      rw [hx] at hb
      refine ihx a h hx g ca w A R hG I hk hv _ fun g1 ce ca1 w1 x1 x2 x3 x4 => ?_
      cases x4 with
      | normal => exact ihy a1 h1 hb g1 ca1 w1 x3 x2 (hG.mono x1.le) (I.ext x1) (hk.mono x1.le) (hv.mono x1.le) Q fun g2 ce ca2 w2 y1 => K g2 ce ca2 w2 (x1.trans y1)
      | exit id => cases hb; exact K g1 _ ca1 w1 x1 x2 x3 (.exit id)
      | goto l => cases hb; exact K g1 _ ca1 w1 x1 x2 x3 (.goto l)
      | ret => cases hb; exact K g1 _ ca1 w1 x1 x2 x3 .ret
      | panic v u hu => cases hb; exact K g1 _ ca1 w1 x1 x2 x3 (.panic v u hu)
  | block id b ih =>
    intro a h e a' h' hb g ca w A R hG I hk hv Q K
    unfold entC at hb
    refine wpIn_block ?_
    cases hx : entC (tiOf P) G S it k v b a h with
    | fail => rw [hx] at hb; cases hb
    | ok e1 a1 h1 =>
      rw [hx] at hb
      refine ih a h hx g ca w A R hG I hk hv _ fun g1 ce ca1 w1 x1 x2 x3 x4 => ?_
      cases x4 with
      | normal => cases hb; exact K g1 _ ca1 w1 x1 x2 x3 .normal
      | exit i =>
        simp only at hb
        split at hb
        · rename_i hi
          cases hb
          have := (beq_iff _ _).1 hi
          simp only [Exit.inBlock, this, if_true]
          exact K g1 _ ca1 w1 x1 x2 x3 .normal
        · rename_i hi
          cases hb
          have hne : ¬ i = id := fun e => by rw [(beq_iff _ _).2 e] at hi; cases hi
          simp only [Exit.inBlock, hne, if_false]
          exact K g1 _ ca1 w1 x1 x2 x3 (.exit i)
      | goto l => cases hb; exact K g1 _ ca1 w1 x1 x2 x3 (.goto l)
      | ret => cases hb; exact K g1 _ ca1 w1 x1 x2 x3 .ret
      | panic v u hu => cases hb; exact K g1 _ ca1 w1 x1 x2 x3 (.panic v u hu)
  | region id ops d =>
    intro a h e a' h' hb g ca w A R hG I hk hv Q K
    unfold entC at hb
    split at hb
    · refine wpIn_region ?_
      have := entOps_ok hE ops.toList 0 (fun k => by simp) a h hb g ca w A R hG I hk hv Q K
      rw [List.range_eq_range']
      simpa using this
    · exact other _ a h hb g ca w A R hG I hk hv Q K
  | _ => exact fun a h _ _ _ hb => other _ a h hb
end
end
end
end Go.Ab
/-! A range over a map: the loop. -/
namespace Go.Ab
open Go Go.ChangeMaps
noncomputable section

def aNext (a : AcA) (t8 t9 : Tmp) (k v : AV) : AcA := (a.put (some t8) (.tup [.bool true, k, v])).put (some t9) (.bool true)
def aOver (a : AcA) (t8 t9 : Tmp) : AcA := (a.put (some t8) (.tup [.bool false])).put (some t9) (.bool false)
/-- What holds of each order of the entries that are left; Fin: behind the last. -/
def XL (B : AV → AV → AcA → H → RC) (itT : Operand) (it : Nat) (G : Nat → Option (List AV)) (t8 t9 : Tmp) (Fin : AcA → H → Prop) : Nat → List (AV × AV) → AcA → H → Prop
  | 0, rem, a, h => rem = [] ∧ t8 < a.tmps.n ∧ t9 < a.tmps.n ∧ ev G a.tmps itT = .ptr it 0 ∧ Fin (aOver a t8 t9) h
  | n + 1, rem, a, h => rem.length = n + 1 ∧ t8 < a.tmps.n ∧ t9 < a.tmps.n ∧ ev G a.tmps itT = .ptr it 0 ∧ ∀ i kv, rem[i]? = some kv → ∃ a2 h2, B kv.1 kv.2 (aNext a t8 t9 kv.1 kv.2) h = .ok .normal a2 h2 ∧ XL B itT it G t8 t9 Fin n (rem.eraseIdx i) a2 h2

theorem filter_perm {α : Type} {f : α → Nat} {p : α → Bool} {z : α} : ∀ {l : List α}, (l.map f).Nodup → z ∈ l → p z = true → (l.filter p).Perm (z :: l.filter (fun x => p x && f x != f z))
  | [], _, hz, _ => by cases hz
  | a :: l, hn, hz, hp => by
    simp only [List.map_cons, List.nodup_cons] at hn
    rcases List.mem_cons.1 hz with rfl | hz
    · rw [List.filter_cons_of_pos hp, List.filter_cons_of_neg (by simp)]
      refine .cons _ ?_
      have : l.filter p = l.filter (fun x => p x && f x != f z) := List.filter_congr fun x hx => by
        have : f x ≠ f z := fun e => hn.1 (e ▸ List.mem_map_of_mem hx)
        simp [this]
      rw [this]
    · have ih := filter_perm hn.2 hz hp
      have hne : f a ≠ f z := fun e => hn.1 (e ▸ List.mem_map_of_mem hz)
      by_cases hpa : p a = true
      · rw [List.filter_cons_of_pos hpa, List.filter_cons_of_pos (by simp [hpa, hne])]
        exact (ih.cons a).trans (.swap z a _)
      · rw [List.filter_cons_of_neg hpa, List.filter_cons_of_neg (by simp [hpa])]
        exact ih
theorem left_perm {ents : Array MapEntry} {seen : Array Nat} (hn : (ents.toList.map (·.born)).Nodup) {e : MapEntry} (he : e ∈ (leftOf ents seen).toList) :
    (leftOf ents seen).toList.Perm (e :: (leftOf ents (seen.push e.born)).toList) := by
  unfold leftOf at he ⊢
  rw [Array.toList_filter] at he ⊢
  rw [List.mem_filter] at he
  rw [Array.toList_filter]
  refine (filter_perm hn he.1 he.2).trans (.cons _ ?_)
  have : ents.toList.filter (fun x => (!seen.contains x.born) && x.born != e.born) = ents.toList.filter (fun x => !(seen.push e.born).contains x.born) := List.filter_congr fun x _ => by
    rw [Array.contains_push, Bool.not_or]; rfl
  rw [this]

section
variable {P : Program} {G : Nat → Option (List AV)} {S : Self}

theorem ext_outer {g0 g : Gh} {h0 h : H} {w0 w w1 : World} {r : Nat} (x : Ext g0 h0 w0 g h w) (hr : w0.heap.size ≤ r) (h1 : w1 = w ∨ w1 = w.drew) (o : Obj) : Ext g0 h0 w0 g h (setBlock w1 r o) := by
  have e : (setBlock w1 r o).heap = w.heap.setIfInBounds r o := by rcases h1 with rfl | rfl <;> rfl
  refine ⟨x.le, x.old, x.next, fun b hb hn => ?_, x.own, ?_, ?_, ?_, ?_⟩
  · rw [e, Array.getElem?_setIfInBounds_ne (by omega)]; exact x.fr b hb hn
  · rw [e, Array.size_setIfInBounds]; exact x.size
  · rcases h1 with rfl | rfl <;> exact x.os
  · rcases h1 with rfl | rfl <;> exact x.tape
  · rcases h1 with rfl | rfl <;> exact x.output

variable {o1 o2 : Oper} {itT : Operand} {t8 t9 : Tmp} {body : Code} {it r mb : Nat} {j : Nat} {id : Nat}

/-- The shape of a round. -/
structure Shape (o1 o2 : Oper) (itT : Operand) (t8 t9 : Tmp) : Prop where
  op1 : o1.op = .next itT false
  dst1 : o1.dst = some t8
  g1 : o1.guard = none
  op2 : o2.op = .extract (.tmp t8) 0
  dst2 : o2.dst = some t9
  g2 : o2.guard = none
  ne : t8 ≠ t9

def roundC (j : Nat) (o1 o2 : Oper) (t9 : Tmp) (id : Nat) (body : Code) : Code := .seq (.region j #[o1, o2] false) (.seq (.cond (.tmp t9) .skip (.exit id)) body)

/-- A round's head. -/
theorem head_ok (sh : Shape o1 o2 itT t8 t9) {g : Gh} {a : AcA} {ca : Act} {w w1 : World} (A : RA g a ca) (hG : GOk g G) (ht : t8 < a.tmps.n) (hit : ev G a.tmps itT = .ptr it 0) (hφ : g.φ it = some (r, 0, 0)) {b : Bool} {rest : List Value} {restA : List AV} (hrest : RelL g restA rest)
    (hrun : ∀ ty, (Instr.next (.pointer (some ⟨r, 0, none⟩)) false ty).run P w = .ok (.tuple (.bool b :: rest).toArray) w1) {Q : Exit → Act → World → Prop}
    (K : ∀ ca', RA g ((a.put (some t8) (.tup (.bool b :: restA))).put (some t9) (.bool b)) ca' → Q .normal ca' w1) : (Code.region j #[o1, o2] false).wpIn (Fr none) 0 P Q ca w := by
  refine wpIn_region ?_
  show wpOpsIn (Fr none) 0 P #[o1, o2] Q [0, 1] ca w
  have hxv := ev_ok hG A itT
  rw [hit] at hxv
  generalize hq : ca.eval itT = q at hxv
  cases hxv with
  | ptr _ _ b0 o0 c0 hφ' =>
    rw [hφ] at hφ'
    cases hφ'
    have w1' : Region.wanted o1 (yielded #[o1, o2] ca.tmps) = true := by unfold Region.wanted; rw [sh.g1]
    have hr1 : RelL g (.bool b :: restA) (.bool b :: rest) := .cons _ _ _ _ (.bool b) hrest
    have A1 := A.put (.tup _ _ hr1) (some t8)
    unfold wpOpsIn
    simp only [List.getElem?_toArray, List.getElem?_cons_zero, w1', if_true]
    refine ⟨about_fr, ?_⟩
    rw [Oper.semAt_eq _ _ _ (fun c' e => by rw [sh.op1] at e; cases e)]
    have e1 : (execOp ca.eval o1).run P w = .ok (.value (.tuple (.bool b :: rest).toArray)) w1 := by
      unfold execOp
      simp only [sh.op1, hq, Nat.add_zero, Sem.run_bind, hrun, Result.andThen_ok, Sem.run_pure]
    rw [e1, Oper.uponIn_value, sh.dst1]
    generalize hca1 : ca.put (some t8) (Value.tuple (.bool b :: rest).toArray) = ca1 at *
    have w2' : Region.wanted o2 (yielded #[o1, o2] ca1.tmps) = true := by unfold Region.wanted; rw [sh.g2]
    unfold wpOpsIn
    simp only [List.getElem?_toArray, List.getElem?_cons_succ, List.getElem?_cons_zero, w2', if_true]
    refine ⟨about_fr, ?_⟩
    rw [Oper.semAt_eq _ _ _ (fun c' e => by rw [sh.op2] at e; cases e)]
    have h8 := A1.tm.at_ t8
    have e8 : eget (a.put (some t8) (.tup (.bool b :: restA))).tmps t8 = .tup (.bool b :: restA) := eget_eset_same _ _ _ (Nat.lt_of_lt_of_le ht A.tm.hi) ht
    have hv8 : ca1.eval (.tmp t8) = .tuple (.bool b :: rest).toArray := by
      rw [← hca1]
      have hlt : t8 < ca.tmps.size := by have := A.tm.n; rw [Array.length_toList] at this; rw [← this]; exact ht
      simp [Act.eval, Act.put, hlt]
    have e2 : (execOp ca1.eval o2).run P w1 = .ok (.value (.bool b)) w1 := by
      unfold execOp
      simp only [sh.op2, hv8]
      simp [Instr.extract]
    rw [e2, Oper.uponIn_value, sh.dst2]
    unfold wpOpsIn
    exact K _ (A1.put (.bool b) (some t9))

theorem n_put (a : AcA) (d : Option Tmp) (v : AV) : (a.put d v).tmps.n = a.tmps.n := by
  cases d with
  | none => rfl
  | some d => cases a; exact eset_n _ _ _

/-- The state ahead of a round. -/
structure Loop (g0 : Gh) (h0 : H) (w0 : World) (G : Nat → Option (List AV)) (it r mb : Nat) (ents : Array MapEntry) (clock since : Nat) (left : List (AV × AV)) (g : Gh) (a : AcA) (h : H) (ca : Act) (w : World) : Prop where
  A : RA g a ca
  R : RS g h w
  G : GOk g G
  X : Ext g0 h0 w0 g h w
  I : ∃ seen c0, It g h w it r mb (.mapIter (some mb) since seen c0) (.map ents clock) ∧ since ≤ c0 ∧
    ∃ zs : List (MapEntry × (AV × AV)), zs.map (·.2) = left ∧ (zs.map (·.1)).Perm (leftOf ents seen).toList ∧ ∀ z ∈ zs, Rel g z.2.1 z.1.key ∧ Rel g z.2.2 z.1.val

theorem eval9 {g : Gh} {a : AcA} {ca ca' : Act} (A : RA g a ca) {t8 t9 : Tmp} {x : AV} {b : Bool} (h9 : t9 < a.tmps.n) (A' : RA g ((a.put (some t8) x).put (some t9) (.bool b)) ca') : ca'.eval (.tmp t9) = .bool b := by
  have h1 := A'.tm.at_ t9
  have hn9 : t9 < (a.put (some t8) x).tmps.n := by rw [n_put]; exact h9
  have e9 : eget ((a.put (some t8) x).put (some t9) (.bool b)).tmps t9 = .bool b := eget_eset_same _ _ _ (Nat.lt_of_lt_of_le h9 A.tm.hi) hn9
  rw [e9] at h1
  generalize hq : ca'.tmps.toList.getD t9 Go.undef = q at h1
  cases h1
  simpa [Act.eval] using hq

theorem rounds_ok (hS : Sound P G S) (sh : Shape o1 o2 itT t8 t9) {g0 : Gh} {h0 : H} {w0 : World} (hr0 : w0.heap.size ≤ r) {ents : Array MapEntry} {clock since : Nat} (hold : ∀ x ∈ ents.toList, x.born < since) (hsc : since ≤ clock) (hn : (ents.toList.map (·.born)).Nodup)
    {Fin : AcA → H → Prop} {Q : Exit → Act → World → Prop}
    (K : ∀ g a h ca w, Fin a h → Loop g0 h0 w0 G it r mb ents clock since [] g a h ca w → Q (.exit id) ca w) :
    ∀ (n : Nat) (left : List (AV × AV)) (g : Gh) (a : AcA) (h : H) (ca : Act) (w : World), XL (fun k v => entC (tiOf P) G S it k v body) itT it G t8 t9 Fin n left a h →
      Loop g0 h0 w0 G it r mb ents clock since left g a h ca w → Code.roundsIn (Fr none) 0 P (roundC j o1 o2 t9 id body) Q (n + 1) ca w := by
  intro n
  induction n with
  | zero =>
    intro left g a h ca w hX L
    obtain ⟨hl, ht, ht9, hit, hfin⟩ := hX
    subst hl
    obtain ⟨seen, c0, I, hc0, zs, z1, z2, z3⟩ := L.I
    have hz : zs = [] := List.map_eq_nil_iff.1 z1
    subst hz
    have hempty : (leftOf ents seen).toList = [] := z2.symm.eq_nil
    rw [roundsIn_succ]
    refine wpIn_seq ?_
    have hrun : ∀ ty, (Instr.next (.pointer (some ⟨r, 0, none⟩)) false ty).run P w = .ok (.tuple (.bool false :: []).toArray) w := fun ty => by
      rcases run_next_at (P := P) w ty r mb since c0 seen ents clock I.X I.Y hold hc0 with ⟨_, h1⟩ | ⟨e, he, _⟩
      · exact h1
      · rw [hempty] at he; cases he
    refine head_ok sh L.A L.G ht hit I.φ (restA := []) .nil hrun fun ca' A' => ?_
    refine wpIn_seq ?_
    refine wpIn_cond_false (eval9 L.A ht9 A') (wpIn_exit ?_)
    exact K g _ h ca' w hfin ⟨A', L.R, L.G, L.X, seen, c0, I, hc0, [], rfl, z2, by simp⟩
  | succ n ih =>
    intro left g a h ca w hX L
    obtain ⟨hl, ht, ht9, hit, hstep⟩ := hX
    obtain ⟨seen, c0, I, hc0, zs, z1, z2, z3⟩ := L.I
    rw [roundsIn_succ]
    refine wpIn_seq ?_
    have hlen : (leftOf ents seen).size = n + 1 := by
      have h2 := z2.length_eq
      have h3 : zs.length = n + 1 := by rw [← hl, ← z1, List.length_map]
      rw [List.length_map, h3] at h2
      rw [h2]; rfl
    have hnext : ∃ e ∈ (leftOf ents seen).toList, ∃ w1 : World, (w1 = w ∨ w1 = w.drew) ∧ ∀ ty, (Instr.next (.pointer (some ⟨r, 0, none⟩)) false ty).run P w = .ok (.tuple (.bool true :: [e.key, e.val]).toArray) (setBlock w1 r (.mapIter (some mb) since (seen.push e.born) clock)) := by
      rcases run_next_at (P := P) w 0 r mb since c0 seen ents clock I.X I.Y hold hc0 with ⟨h1, _⟩ | ⟨e, he, w1, hw1, hrun⟩
      · rw [hlen] at h1; cases h1
      · exact ⟨e, he, w1, hw1, fun ty => hrun⟩
    · skip
      obtain ⟨e, he, w1, hw1, hrun⟩ := hnext
      have hr : r < w.heap.size := (Array.getElem?_eq_some_iff.1 I.X).1
      have hrm : mb ≠ r := fun e => by have h1 := I.X; rw [← e, I.Y] at h1; cases h1
      -- the entry that has come
      obtain ⟨i, hi⟩ : ∃ i, (zs.map (·.1))[i]? = some e := List.mem_iff_getElem?.1 (z2.symm.subset he)
      rw [List.getElem?_map] at hi
      obtain ⟨z, hz, rfl⟩ := Option.map_eq_some_iff.1 hi
      have hzm : z ∈ zs := List.mem_of_getElem? hz
      have hkv : left[i]? = some z.2 := by rw [← z1, List.getElem?_map, hz]; rfl
      obtain ⟨a2, h2, hB, hXn⟩ := hstep i z.2 hkv
      have hheap : (setBlock w1 r (.mapIter (some mb) since (seen.push z.1.born) clock)).heap = w.heap.setIfInBounds r (.mapIter (some mb) since (seen.push z.1.born) clock) := by rcases hw1 with rfl | rfl <;> rfl
      have hfr : ∀ b', b' < w.heap.size → b' ≠ r → (setBlock w1 r (.mapIter (some mb) since (seen.push z.1.born) clock)).heap[b']? = w.heap[b']? := fun b' _ hne => by
        rw [hheap, Array.getElem?_setIfInBounds_ne (Ne.symm hne)]
      generalize hW : setBlock w1 r (.mapIter (some mb) since (seen.push z.1.born) clock) = W at *
      have RW : RS g h W := L.R.of_other hfr I.nr (no_imm L.R I.X (by intros; simp))
      have IW : It g h W it r mb (.mapIter (some mb) since (seen.push z.1.born) clock) (.map ents clock) :=
        ⟨I.φ, by rw [hheap, Array.getElem?_setIfInBounds_self_of_lt hr], (hfr mb (Array.getElem?_eq_some_iff.1 I.Y).1 hrm).trans I.Y, I.nr, I.nm⟩
      have XW : Ext g0 h0 w0 g h W := hW ▸ ext_outer L.X hr0 hw1 _
      obtain ⟨zk, zv⟩ := z3 z hzm
      refine head_ok sh L.A L.G ht hit I.φ (restA := [z.2.1, z.2.2]) (.cons _ _ _ _ zk (.cons _ _ _ _ zv .nil)) hrun fun ca' A' => ?_
      refine wpIn_seq (wpIn_cond_true (eval9 L.A ht9 A') (wpIn_skip ?_))
      have hein : z.1 ∈ ents.toList := by
        unfold leftOf at he
        rw [Array.toList_filter] at he
        exact (List.mem_filter.1 he).1
      refine entC_ok (r := r) (mb := mb) (X := .mapIter (some mb) since (seen.push z.1.born) clock) (Y := .map ents clock) (key := z.1.key) (val := z.1.val) (fun w' hx hy => run_entry_at w' r mb since seen ents clock z.1 hx hy hein hn) hS.c body _ h hB g ca' W A' RW L.G IW zk zv _ fun g2 ce ca2 w2 x1 x2 x3 x4 => ?_
      cases x4
      refine ih (left.eraseIdx i) g2 a2 h2 ca2 w2 hXn ⟨x3, x2, L.G.mono x1.le, XW.trans x1, seen.push z.1.born, clock, IW.ext x1, hsc, zs.eraseIdx i, ?_, ?_, fun z' hz' => ?_⟩
      · rw [map_eraseIdx, z1]
      · rw [map_eraseIdx]
        have p1 := perm_erase (l := zs.map (·.1)) (j := i) (a := z.1) (by rw [List.getElem?_map, hz]; rfl)
        exact (p1.symm.trans (z2.trans (left_perm hn he))).cons_inv
      · obtain ⟨y1, y2⟩ := z3 z' (List.mem_of_mem_eraseIdx hz')
        exact ⟨y1.mono x1.le, y2.mono x1.le⟩
end
end
end Go.Ab
/-! A range over a map: from its beginning to its end; and code in which such loops stand, every order. -/
namespace Go.Ab
open Go Go.ChangeMaps
noncomputable section

inductive RG | ok (a : AcA) (h : H) (it m : Nat) (es : List (AV × AV)) | nil (a : AcA) (h : H) | fail
section
variable (T : TypeId → Option TI) (G : Nat → Option (List AV)) (S : Self)
/-- The operation that begins the range. -/
def rngOp (o : Oper) (t : TypeId) (x : Operand) (a : AcA) (h : H) : RG :=
  match o.guard, o.dst, T t, h.room with
  | none, some d, some ti, true => (match ti.d with
    | .map _ _ => (match ev G a.tmps x with
      | .map m => (match h.get m with | some (.map es) => .ok (a.put (some d) (.ptr h.next 0)) ((h.newO none).set m none) h.next m es | _ => .fail)
      | .nilmap => .nil (a.put (some d) (.ptr h.next 0)) (h.newO none)
      | _ => .fail)
    | _ => .fail)
  | _, _, _, _ => .fail
def rngOps (ops : List Oper) : List Oper → AcA → H → RG
  | [], _, _ => .fail
  | o :: r, a, h => match o.op with
    | .range t x => (match r with | [] => rngOp T G o t x a h | _ => .fail)
    | op => match wantedA ops o a.tmps with
      | none => .fail
      | some false => rngOps ops r (a.put o.dst undefA) h
      | some true => match isPlain o, opA T (ev G a.tmps) h op with
        | true, some (x, h) => rngOps ops r (a.put o.dst x) h
        | _, _ => .fail
end

section
variable {P : Program} {G : Nat → Option (List AV)} {S : Self}

/-- What lies there where a range over a map that is not nil has begun. -/
structure Begun (gB : Gh) (hB : H) (wB : World) (m : Nat) (es : List (AV × AV)) (mb : Nat) (ents : Array MapEntry) (clock : Nat) (es' : List (AV × AV)) : Prop where
  R : RS gB hB wB
  room : hB.next < 32768
  get : hB.get m = some (.map es)
  φ : ∃ o c, gB.φ m = some (mb, o, c)
  perm : MPerm es' es
  heap : wB.heap[mb]? = some (.map ents clock)
  keys : RelL gB (es'.map (·.1)) (ents.toList.map (·.key))
  vals : RelL gB (es'.map (·.2)) (ents.toList.map (·.val))
  st : St ents clock

theorem rngOps_ok {ops : Array Oper} {Q : Exit → Act → World → Prop} {rg : RG} : ∀ (l : List Oper) (i : Nat), (∀ j, l[j]? = ops[i + j]?) → ∀ (a : AcA) (h : H), rngOps (tiOf P) G ops.toList l a h = rg → rg ≠ .fail →
    ∀ g ca w, RA g a ca → RS g h w → GOk g G →
    (∀ a' h' it m es, rg = .ok a' h' it m es → ∀ gB hB wB ca' mb ents clock es', Ext g h w gB hB wB → Begun gB hB wB m es mb ents clock es' → it = hB.next → h' = (hB.newO none).set m none → RA (gB.add hB.next (wB.heap.size, 0, 0)) a' ca' →
      Q .normal ca' (wB.alloc (.mapIter (some mb) clock #[] clock))) →
    (∀ a' h', rg = .nil a' h' → ∀ gB hB wB ca', Ext g h w gB hB wB → RS gB hB wB → hB.next < 32768 → h' = hB.newO none → RA (gB.add hB.next (wB.heap.size, 0, 0)) a' ca' → Q .normal ca' (wB.alloc (.mapIter none 0 #[] 0))) →
    wpOpsIn (Fr none) 0 P ops Q (List.range' i l.length) ca w
  | [], i, _, a, h, hb, hne, _, _, _, _, _, _, _, _ => absurd hb.symm hne
  | o :: l, i, hl, a, h, hb, hne, g, ca, w, A, R, hG, K1, K2 => by
    have ho : ops[i]? = some o := by have := hl 0; simpa using this.symm
    have hl' : ∀ j, l[j]? = ops[i + 1 + j]? := fun j => by
      have := hl (j + 1)
      rw [List.getElem?_cons_succ] at this
      rw [this, show i + (j + 1) = i + 1 + j by omega]
    rw [List.length_cons, List.range'_succ]
    unfold wpOpsIn
    rw [ho]
    simp only
    unfold rngOps at hb
    split at hb
    · rename_i t x hop
      split at hb
      · unfold rngOp at hb
        split at hb
        · rename_i d ti hg hd ht hroom
          have hw : Region.wanted o (yielded ops ca.tmps) = true := by unfold Region.wanted; rw [hg]
          have hroom' : h.next < 32768 := Nat.le_of_ble_eq_true hroom
          rw [if_pos hw]
          refine ⟨about_fr, ?_⟩
          rw [Oper.semAt_eq _ _ _ (fun c' e => by rw [hop] at e; cases e)]
          have hxv := ev_ok hG A x
          split at hb
          · rename_i kt et hdd
            split at hb
            · rename_i m hm
              split at hb
              · rename_i es hes
                rw [hm] at hxv
                generalize hq : ca.eval x = q at hxv
                cases hxv with
                | map _ mb o0 c0 hφ =>
                  obtain ⟨es', hp, ents, clock, h2, h3, h4, hst⟩ := R.obj _ _ _ _ _ hes hφ
                  have hrun : (execOp ca.eval o).run P w = .ok (.value (.pointer (some ⟨w.heap.size, 0, none⟩))) (w.alloc (.mapIter (some mb) clock #[] clock)) := by
                    unfold execOp
                    simp only [hop, hq]
                    unfold Instr.range
                    simp only [Sem.run_bind, run_und ht, hdd, Result.andThen_ok, getObj, Sem.run, h2, Sem.run_pure]
                    first | rfl | (simp [newObj, go_sem]; done)
                  rw [hrun, Oper.uponIn_value]
                  subst hb
                  refine K1 _ _ _ _ _ rfl g h w _ mb ents clock es' (.refl g h w) ⟨R, hroom', hes, ⟨_, _, hφ⟩, hp, h2, h3, h4, hst⟩ rfl rfl ?_
                  have hle : g.le (g.add h.next (w.heap.size, 0, 0)) := Gh.le_add (R.fresh _ (Nat.le_refl _)).1
                  rw [hd]
                  exact (A.mono hle).put (.ptr _ 0 _ 0 0 (by simp [Gh.add])) (some d)
              · exact absurd hb.symm hne
            · rename_i hm
              rw [hm] at hxv
              generalize hq : ca.eval x = q at hxv
              cases hxv
              have hrun : (execOp ca.eval o).run P w = .ok (.value (.pointer (some ⟨w.heap.size, 0, none⟩))) (w.alloc (.mapIter none 0 #[] 0)) := by
                unfold execOp
                simp only [hop, hq]
                unfold Instr.range
                simp only [Sem.run_bind, run_und ht, hdd, Result.andThen_ok, Sem.run_pure]
                first | rfl | (simp [newObj, go_sem]; done)
              rw [hrun, Oper.uponIn_value]
              subst hb
              refine K2 _ _ rfl g h w _ (.refl g h w) R hroom' rfl ?_
              have hle : g.le (g.add h.next (w.heap.size, 0, 0)) := Gh.le_add (R.fresh _ (Nat.le_refl _)).1
              rw [hd]
              exact (A.mono hle).put (.ptr _ 0 _ 0 0 (by simp [Gh.add])) (some d)
            · exact absurd hb.symm hne
          · exact absurd hb.symm hne
        · exact absurd hb.symm hne
      · exact absurd hb.symm hne
    · split at hb
      · exact absurd hb.symm hne
      · rename_i hw
        rw [wanted_ok A hw, if_neg (by simp)]
        refine ⟨about_fr, ?_⟩
        exact rngOps_ok l (i + 1) hl' _ h hb hne g _ w (A.put (Rel.undef g) o.dst) R hG K1 K2
      · rename_i hw
        rw [wanted_ok A hw, if_pos rfl]
        split at hb
        · rename_i x h1 hp ho'
          have hnd : ∀ c, o.op ≠ .defer c := fun c e => by unfold isPlain at hp; rw [e] at hp; cases hp
          obtain ⟨u, w', g', h1, h2, h3, h4⟩ := op_ok (P := P) (o := o) R (ev_ok hG A) ho'
          refine ⟨about_fr, ?_⟩
          rw [Oper.semAt_eq _ _ _ hnd]
          have K1' := fun (a' : AcA) (h' : H) (it m : Nat) (es : List (AV × AV)) (e : rg = .ok a' h' it m es) (gB : Gh) (hB : H) (wB : World) (ca' : Act) (mb : Nat) (ents : Array MapEntry) (clock : Nat) (es' : List (AV × AV)) (y : Ext g' _ w' gB hB wB) => K1 a' h' it m es e gB hB wB ca' mb ents clock es' (h2.trans y)
          have K2' := fun (a' : AcA) (h' : H) (e : rg = .nil a' h') (gB : Gh) (hB : H) (wB : World) (ca' : Act) (y : Ext g' _ w' gB hB wB) => K2 a' h' e gB hB wB ca' (h2.trans y)
          rcases h1 with h1 | ⟨h1, rfl⟩
          · rw [h1, Oper.uponIn_value]
            exact rngOps_ok l (i + 1) hl' _ _ hb hne g' _ w' ((A.mono h2.le).put h4 o.dst) h3 (hG.mono h2.le) K1' K2'
          · rw [h1, Oper.uponIn_skip]
            exact rngOps_ok l (i + 1) hl' _ _ hb hne g' _ w' ((A.mono h2.le).put h4 o.dst) h3 (hG.mono h2.le) K1' K2'
        · exact absurd hb.symm hne

theorem Ext.addDead {g : Gh} {h : H} {w w' : World} (R : RS g h w) {r : Nat} (hroom : h.next < 32768) (hfr : ∀ b', b' < w.heap.size → w'.heap[b']? = w.heap[b']?) (hs : w.heap.size ≤ w'.heap.size) (ho : w'.os = w.os) (ht : w'.tape = w.tape) (hu : w'.output = w.output) :
    Ext g h w (g.add h.next (r, 0, 0)) (h.newO none) w' := by
  have hf := R.fresh h.next (Nat.le_refl _)
  refine ⟨Gh.le_add hf.1, fun id hid => ?_, by rw [H.newO_next]; omega, fun b hb _ => hfr b hb, fun b hb ⟨j, a, o, c, h1, h2⟩ => ?_, hs, ho, ht, hu⟩
  · have : id ≠ h.next := by omega
    simp [Gh.add, this]
  · rw [H.newO_get h none hroom hf.2] at h1
    split at h1
    · cases h1
    · rename_i hj
      exact ⟨j, a, o, c, h1, by simpa [Gh.add, hj] using h2⟩

theorem Ext.kill {g0 g : Gh} {h0 h : H} {w0 w : World} (X : Ext g0 h0 w0 g h w) (m : Nat) (hm : m < 32768) : Ext g0 h0 w0 g (h.set m none) w :=
  ⟨X.le, X.old, by rw [H.set_next]; exact X.next, X.fr, fun b hb ⟨j, a, o, c, h1, h2⟩ => by
    by_cases hj : j = m
    · subst hj; rw [H.get_set_same h j _ hm] at h1; cases h1
    · rw [H.get_set_other h m j _ (Ne.symm hj)] at h1; exact X.own b hb ⟨j, a, o, c, h1, h2⟩, X.size, X.os, X.tape, X.output⟩

/-- The loop over a map that is not nil. -/
theorem mapLoop_ok (hS : Sound P G S) {o1 o2 : Oper} {itT : Operand} {t8 t9 : Tmp} {body : Code} {j id : Nat} (sh : Shape o1 o2 itT t8 t9) {gB : Gh} {hB : H} {wB : World} {m : Nat} {es es' : List (AV × AV)} {mb : Nat} {ents : Array MapEntry} {clock : Nat} (hG : GOk gB G)
    (B : Begun gB hB wB m es mb ents clock es') {a : AcA} {ca : Act} (A : RA (gB.add hB.next (wB.heap.size, 0, 0)) a ca) {Fin : AcA → H → Prop}
    (hX : XL (fun k v => entC (tiOf P) G S hB.next k v body) itT hB.next G t8 t9 Fin es.length es a ((hB.newO none).set m none)) {Q : Exit → Act → World → Prop}
    (K : ∀ g' a' h' ca' w', Fin a' h' → Ext gB hB wB g' (h'.set m (some (.map es))) w' → RS g' (h'.set m (some (.map es))) w' → RA g' a' ca' → Q .normal ca' w') :
    (Code.block id (.loop (roundC j o1 o2 t9 id body))).wpIn (Fr none) 0 P Q ca (wB.alloc (.mapIter (some mb) clock #[] clock)) := by
  have hfr : ∀ b', b' < wB.heap.size → (wB.alloc (.mapIter (some mb) clock #[] clock)).heap[b']? = wB.heap[b']? := fun b' hb => Go.RowKit.Below.heap_alloc wB _ b' hb
  have hms : m < 32768 := B.R.small m (by rw [B.get]; simp)
  have hmn : m < hB.next := by
    rcases Nat.lt_or_ge m hB.next with h1 | h1
    · exact h1
    · have := (B.R.fresh m h1).2; rw [B.get] at this; cases this
  obtain ⟨om, cm, hφm⟩ := B.φ
  have hmb : mb < wB.heap.size := (Array.getElem?_eq_some_iff.1 B.heap).1
  have R1 := B.R.addDead (r := wB.heap.size) B.room hfr
  have X1 : Ext gB hB wB (gB.add hB.next (wB.heap.size, 0, 0)) (hB.newO none) (wB.alloc (.mapIter (some mb) clock #[] clock)) := Ext.addDead B.R B.room hfr (by simp) rfl rfl rfl
  have R2 := R1.kill m hms
  have X2 := X1.kill m hms
  have hW : (wB.alloc (.mapIter (some mb) clock #[] clock)).heap[wB.heap.size]? = some (.mapIter (some mb) clock #[] clock) := World.alloc_heap_new wB _
  generalize hw1 : wB.alloc (.mapIter (some mb) clock #[] clock) = w1 at *
  generalize hg1 : gB.add hB.next (wB.heap.size, 0, 0) = g1 at *
  have hφ1m : g1.φ m = some (mb, om, cm) := X1.le.φ _ _ hφm
  have nm : ¬ own g1 ((hB.newO none).set m none) mb := fun ⟨i, ao, o, c, h1, h2⟩ => by
    have hi : i ≠ m := fun e => by subst e; rw [H.get_set_same _ _ _ hms] at h1; cases h1
    rw [H.get_set_other _ m i _ (Ne.symm hi)] at h1
    have hg : (hB.newO none).get m = some (.map es) := by
      rw [H.newO_get hB none B.room (B.R.fresh _ (Nat.le_refl _)).2, if_neg (by omega)]; exact B.get
    exact hi (R1.disj i m _ _ _ _ _ _ _ h1 hg h2 hφ1m)
  have I1 : It g1 ((hB.newO none).set m none) w1 hB.next wB.heap.size mb (.mapIter (some mb) clock #[] clock) (.map ents clock) := by
    refine ⟨by rw [← hg1]; simp [Gh.add], hW, (hfr mb hmb).trans B.heap, fun ho => ?_, nm⟩
    obtain ⟨i, ao, o, c, h1, h2⟩ := ho
    have h3 := R2.obj i ao _ _ _ h1 h2
    have hi : i ≠ m := fun e => by subst e; rw [H.get_set_same _ _ _ hms] at h1; cases h1
    rw [H.get_set_other _ m i _ (Ne.symm hi)] at h1
    have hget : (hB.newO none).get i = if i = hB.next then none else hB.get i := H.newO_get hB none B.room (B.R.fresh _ (Nat.le_refl _)).2 i
    rw [hget] at h1
    split at h1
    · cases h1
    · rename_i hin
      have h4 : gB.φ i = some (wB.heap.size, o, c) := by rw [← hg1] at h2; simpa [Gh.add, hin] using h2
      exact absurd (B.R.obj i ao _ _ _ h1 h4).lt (Nat.lt_irrefl _)
  -- the entries in the heap's order
  have hlen1 : es'.length = ents.toList.length := by have := B.keys.length; simpa using this
  obtain ⟨zs, hz1, hz2⟩ : ∃ zs : List (MapEntry × (AV × AV)), es = zs.map (·.2) ∧ zs.Perm (ents.toList.zip es') := by
    refine perm_unmap ?_
    rw [List.map_snd_zip (by omega)]
    rcases B.perm with h1 | ⟨h1, _⟩
    · rw [h1]
    · exact h1.symm
  have hz3 : (zs.map (·.1)).Perm (leftOf ents #[]).toList := by
    have h1 := hz2.map (·.1)
    rw [List.map_fst_zip (by omega)] at h1
    have h2 : (leftOf ents #[]).toList = ents.toList := by unfold leftOf; simp
    rw [h2]; exact h1
  have hz4 : ∀ z ∈ zs, Rel g1 z.2.1 z.1.key ∧ Rel g1 z.2.2 z.1.val := fun z hz => by
    have h1 := hz2.subset hz
    obtain ⟨i, hi⟩ := List.mem_iff_getElem?.1 h1
    obtain ⟨h2, h3⟩ := List.getElem?_zip_eq_some.1 hi
    obtain ⟨y1, y2, y3⟩ := B.keys.get (i := i) (x := z.2.1) (by rw [List.getElem?_map, h3]; rfl)
    obtain ⟨y4, y5, y6⟩ := B.vals.get (i := i) (x := z.2.2) (by rw [List.getElem?_map, h3]; rfl)
    rw [List.getElem?_map, h2] at y2 y5
    cases y2; cases y5
    exact ⟨y3.mono X1.le, y6.mono X1.le⟩
  have L1 : Loop gB hB wB G hB.next wB.heap.size mb ents clock clock es g1 a ((hB.newO none).set m none) ca w1 :=
    ⟨A, R2, hG.mono X1.le, X2, #[], clock, I1, Nat.le_refl _, zs, hz1.symm, hz3, hz4⟩
  refine wpIn_block (wpIn_loop_rounds (es.length + 1) ?_)
  refine rounds_ok (Fin := Fin) hS sh (Nat.le_refl _) B.st.1 (Nat.le_refl _) B.st.2 (fun g a' h' ca' w' hf L => ?_) es.length es g1 a _ ca w1 hX L1
  obtain ⟨seen, c0, I, hc0, _, _, _, _⟩ := L.I
  simp only [Exit.inBlock, if_true]
  have hφm' : g.φ m = some (mb, om, cm) := L.X.le.φ _ _ hφm
  have hmn' : m < h'.next := Nat.lt_of_lt_of_le hmn L.X.next
  have hobj : ObjAt g w' mb om cm (.map es) := ⟨es', B.perm, ents, clock, I.Y, B.keys.mono L.X.le, B.vals.mono L.X.le, B.st⟩
  refine K g a' h' ca' w' hf ⟨L.X.le, L.X.old, by rw [H.set_next]; exact L.X.next, L.X.fr, fun b hb ⟨i, ao, o, c, h1, h2⟩ => ?_, L.X.size, L.X.os, L.X.tape, L.X.output⟩ (L.R.revive hmn' hms hφm' I.nm (no_imm L.R I.Y (by intros; simp)) hobj) L.A
  by_cases hi : i = m
  · subst hi; rw [hφm'] at h2; cases h2; exact ⟨i, _, om, cm, B.get, hφm⟩
  · rw [H.get_set_other _ m i _ (Ne.symm hi)] at h1
    exact L.X.own b hb ⟨i, ao, o, c, h1, h2⟩
end
end
end Go.Ab
/-! Code in which ranges over maps stand: every order. -/
namespace Go.Ab
open Go Go.ChangeMaps
noncomputable section

def shapeOf (o1 o2 : Oper) : Option (Operand × Tmp × Tmp) :=
  match o1.op, o1.dst, o1.guard, o2.op, o2.dst, o2.guard with
  | .next x false, some t8, none, .extract (.tmp t) 0, some t9, none => (match Nat.beq t t8, Nat.beq t8 t9 with | true, false => some (x, t8, t9) | _, _ => none)
  | _, _, _, _, _, _ => none
theorem shapeOf_ok {o1 o2 : Oper} {x : Operand} {t8 t9 : Tmp} (h : shapeOf o1 o2 = some (x, t8, t9)) : Shape o1 o2 x t8 t9 := by
  unfold shapeOf at h
  split at h
  · rename_i x' t8' t t9' h1 h2 h3 h4 h5 h6
    split at h
    · rename_i e1 e2
      cases h
      have := (beq_iff _ _).1 e1
      subst this
      exact ⟨h1, h2, h3, h4, h5, h6, fun e => by rw [(beq_iff _ _).2 e] at e2; cases e2⟩
    · cases h
  · cases h

def xEach {α : Type} (f : AV × AV → List (AV × AV) → Option (List α)) : List (AV × AV) → List (AV × AV) → Option (List α)
  | _, [] => some []
  | pre, kv :: r => match f kv (pre ++ r), xEach f (pre ++ [kv]) r with | some l, some l' => some (l ++ l') | _, _ => none
theorem xEach_ok {α : Type} {f : AV × AV → List (AV × AV) → Option (List α)} : ∀ (rem pre : List (AV × AV)) {L : List α}, xEach f pre rem = some L → ∀ i kv, rem[i]? = some kv → ∃ l, f kv ((pre ++ rem).eraseIdx (pre.length + i)) = some l ∧ ∀ x ∈ l, x ∈ L
  | [], _, _, _, i, kv, hi => by simp at hi
  | kv0 :: r, pre, L, h, i, kv, hi => by
    unfold xEach at h
    split at h
    · rename_i l l' h1 h2
      cases h
      cases i with
      | zero =>
        simp at hi; subst hi
        refine ⟨l, ?_, fun x hx => List.mem_append.2 (.inl hx)⟩
        rw [Nat.add_zero, List.eraseIdx_append_of_length_le (Nat.le_refl _), Nat.sub_self]
        exact h1
      | succ i =>
        rw [List.getElem?_cons_succ] at hi
        obtain ⟨l1, h3, h4⟩ := xEach_ok r (pre ++ [kv0]) h2 i kv hi
        refine ⟨l1, ?_, fun x hx => List.mem_append.2 (.inr (h4 x hx))⟩
        rw [← h3]
        simp only [List.append_assoc, List.singleton_append, List.length_append, List.length_singleton]
        congr 2; omega
    · cases h

section
variable (T : TypeId → Option TI) (G : Nat → Option (List AV)) (S : Self)
def okIt (itT : Operand) (it : Nat) (t8 t9 : Tmp) (a : AcA) : Bool :=
  match Nat.ble (t8 + 1) a.tmps.n, Nat.ble (t9 + 1) a.tmps.n, ev G a.tmps itT with
  | true, true, .ptr i 0 => Nat.beq i it
  | _, _, _ => false
def xRounds (B : AV → AV → AcA → H → RC) (itT : Operand) (it : Nat) (t8 t9 : Tmp) : Nat → List (AV × AV) → AcA → H → Option (List (AcA × H))
  | 0, rem, a, h => match rem, okIt G itT it t8 t9 a with | [], true => some [(aOver a t8 t9, h)] | _, _ => none
  | n + 1, rem, a, h => match okIt G itT it t8 t9 a, Nat.beq rem.length (n + 1) with
    | true, true => xEach (fun kv rest => match B kv.1 kv.2 (aNext a t8 t9 kv.1 kv.2) h with | .ok .normal a2 h2 => xRounds B itT it t8 t9 n rest a2 h2 | _ => none) [] rem
    | _, _ => none
def hasRng : List Oper → Bool | [] => false | o :: r => (match o.op with | .range _ _ => true | _ => hasRng r)
def xBegin (itT : Operand) (t8 t9 : Tmp) (body : Code) : RG → Option (List (ExA × AcA × H))
  | .ok a h it m es => (match xRounds G (fun k v => entC T G S it k v body) itT it t8 t9 es.length es a h with
    | some l => some (l.map fun x => (.normal, x.1, x.2.set m (some (.map es))))
    | none => none)
  | .nil a h => (match okIt G itT (h.next - 1) t8 t9 a with | true => some [(.normal, aOver a t8 t9, h)] | false => none)
  | .fail => none
def xMap (x y : Code) (a : AcA) (h : H) : Option (List (ExA × AcA × H)) :=
  match x, y with
  | .region _ ops false, .block id (.loop (.seq (.region _ l2 false) (.seq (.cond (.tmp c) .skip (.exit id')) body))) =>
    (match hasRng ops.toList, l2.toList with
    | true, [o1, o2] => (match shapeOf o1 o2 with
      | some (itT, t8, t9) => (match Nat.beq c t9, Nat.beq id' id with
        | true, true => xBegin T G S itT t8 t9 body (rngOps T G ops.toList ops.toList a h)
        | _, _ => none)
      | none => none)
    | _, _ => none)
  | _, _ => none
def bindX (f : AcA → H → Option (List (ExA × AcA × H))) : List (ExA × AcA × H) → Option (List (ExA × AcA × H))
  | [] => some []
  | (e, a, h) :: r => match bindX f r with
    | none => none
    | some l => match e with
      | .normal => (match f a h with | some l1 => some (l1 ++ l) | none => none)
      | e => some ((e, a, h) :: l)
def oneX : RC → Option (List (ExA × AcA × H)) | .ok e a h => some [(e, a, h)] | .fail => none
def xC : Code → AcA → H → Option (List (ExA × AcA × H))
  | .seq x y, a, h => (match xMap T G S x y a h with
    | some l => some l
    | none => (match xC x a h with | some l => bindX (xC y) l | none => none))
  | c, a, h => oneX (S.c false c a h)
end

section
variable {P : Program} {G : Nat → Option (List AV)} {S : Self}
theorem okIt_ok {itT : Operand} {it : Nat} {t8 t9 : Tmp} {a : AcA} (h : okIt G itT it t8 t9 a = true) : t8 < a.tmps.n ∧ t9 < a.tmps.n ∧ ev G a.tmps itT = .ptr it 0 := by
  unfold okIt at h
  split at h
  · rename_i i h1 h2 h3
    exact ⟨Nat.le_of_ble_eq_true h1, Nat.le_of_ble_eq_true h2, by rw [h3, (beq_iff _ _).1 h]⟩
  · cases h
theorem xRounds_ok {B : AV → AV → AcA → H → RC} {itT : Operand} {it : Nat} {t8 t9 : Tmp} {L : List (AcA × H)} : ∀ (n : Nat) (rem : List (AV × AV)) (a : AcA) (h : H) {l : List (AcA × H)}, xRounds G B itT it t8 t9 n rem a h = some l → (∀ x ∈ l, x ∈ L) →
    XL B itT it G t8 t9 (fun a h => (a, h) ∈ L) n rem a h
  | 0, rem, a, h, l, hb, hl => by
    unfold xRounds at hb
    split at hb
    · rename_i hok
      cases hb
      obtain ⟨h1, h2, h3⟩ := okIt_ok hok
      exact ⟨rfl, h1, h2, h3, hl _ (by simp)⟩
    · cases hb
  | n + 1, rem, a, h, l, hb, hl => by
    unfold xRounds at hb
    split at hb
    · rename_i hok hlen
      obtain ⟨h1, h2, h3⟩ := okIt_ok hok
      refine ⟨(beq_iff _ _).1 hlen, h1, h2, h3, fun i kv hi => ?_⟩
      obtain ⟨l1, h4, h5⟩ := xEach_ok rem [] hb i kv hi
      simp only [List.nil_append, List.length_nil, Nat.zero_add] at h4
      split at h4
      · rename_i a2 h2' hB
        exact ⟨a2, h2', hB, xRounds_ok n _ a2 h2' h4 fun x hx => hl x (h5 x hx)⟩
      · cases h4
    · cases hb

theorem run_next_nil (w : World) (r : Nat) (hr : w.heap[r]? = some (.mapIter none 0 #[] 0)) (ty : TypeId) : (Instr.next (.pointer (some ⟨r, 0, none⟩)) false ty).run P w = .ok (.tuple (.bool false :: []).toArray) w := by
  simp [Instr.next, getObj, Sem.run, hr, Result.andThen]

/-- Every outcome of code is told. -/
def XSound (P : Program) (G : Nat → Option (List AV)) (f : Code → AcA → H → Option (List (ExA × AcA × H))) (c : Code) : Prop :=
  ∀ a h L, f c a h = some L → ∀ g ca w, RA g a ca → RS g h w → GOk g G → ∀ Q : Exit → Act → World → Prop,
    (∀ e a' h', (e, a', h') ∈ L → ∀ g' ce ca' w', Ext g h w g' h' w' → RS g' h' w' → RA g' a' ca' → RelE g' e ce → Q ce ca' w') → c.wpIn (Fr none) 0 P Q ca w

theorem xMap_ok (hS : Sound P G S) {x y : Code} {a : AcA} {h : H} {L : List (ExA × AcA × H)} (hb : xMap (tiOf P) G S x y a h = some L) {g : Gh} {ca : Act} {w : World} (A : RA g a ca) (R : RS g h w) (hG : GOk g G) {Q : Exit → Act → World → Prop}
    (K : ∀ e a' h', (e, a', h') ∈ L → ∀ g' ce ca' w', Ext g h w g' h' w' → RS g' h' w' → RA g' a' ca' → RelE g' e ce → Q ce ca' w') : (Code.seq x y).wpIn (Fr none) 0 P Q ca w := by
  unfold xMap at hb
  split at hb
  · rename_i i ops id j l2 c id' body
    split at hb
    · rename_i o1 o2 hr hl2
      split at hb
      · rename_i itT t8 t9 hsh
        split at hb
        · rename_i hc hid
          have hc' := (beq_iff _ _).1 hc
          have hid' := (beq_iff _ _).1 hid
          subst hc'; subst hid'
          have sh := shapeOf_ok hsh
          have hl : l2 = #[o1, o2] := by apply Array.ext'; rw [hl2]
          subst hl
          refine wpIn_seq (wpIn_region ?_)
          cases hrg : rngOps (tiOf P) G ops.toList ops.toList a h with
          | fail => rw [hrg] at hb; cases hb
          | ok a1 h1 it m es =>
            rw [hrg] at hb
            unfold xBegin at hb
            simp only at hb
            split at hb
            · rename_i l hlr
              cases hb
              have := rngOps_ok (P := P) (Q := Exit.then ((Code.block id' (.loop (.seq (.region j #[o1, o2] false) (.seq (.cond (.tmp c) .skip (.exit id')) body)))).wpIn (Fr none) 0 P Q) Q) ops.toList 0 (fun k => by simp) a h hrg (by simp) g ca w A R hG ?_ ?_
              · rw [List.range_eq_range']; simpa using this
              · intro a' h' it' m' es1 e gB hB wB ca' mb ents clock es' x1 B eit eh A'
                cases e
                subst eit; subst eh
                have hX := xRounds_ok (L := l) es.length es a1 _ hlr (fun _ hx => hx)
                exact mapLoop_ok hS sh (hG.mono x1.le) B A' hX fun g2 a2 h2 ca2 w2 hf y1 y2 y3 => K .normal a2 _ (List.mem_map.2 ⟨(a2, h2), hf, rfl⟩) g2 .normal ca2 w2 (x1.trans y1) y2 y3 .normal
              · intro a' h' e; cases e
            · cases hb
          | nil a1 h1 =>
            rw [hrg] at hb
            unfold xBegin at hb
            simp only at hb
            split at hb
            · rename_i hok
              cases hb
              obtain ⟨ht8, ht9, hit⟩ := okIt_ok hok
              have := rngOps_ok (P := P) (Q := Exit.then ((Code.block id' (.loop (.seq (.region j #[o1, o2] false) (.seq (.cond (.tmp c) .skip (.exit id')) body)))).wpIn (Fr none) 0 P Q) Q) ops.toList 0 (fun k => by simp) a h hrg (by simp) g ca w A R hG ?_ ?_
              · rw [List.range_eq_range']; simpa using this
              · intro a' h' it' m' es1 e; cases e
              · intro a' h' e gB hB wB ca' x1 RB hroom eh A'
                cases e
                have hn : h1.next - 1 = hB.next := by rw [eh, H.newO_next]; rfl
                rw [hn] at hit
                have hfr : ∀ b', b' < wB.heap.size → (wB.alloc (.mapIter none 0 #[] 0)).heap[b']? = wB.heap[b']? := fun b' hb => Go.RowKit.Below.heap_alloc wB _ b' hb
                have hW : (wB.alloc (.mapIter none 0 #[] 0)).heap[wB.heap.size]? = some (.mapIter none 0 #[] 0) := World.alloc_heap_new wB _
                have R1 := RB.addDead (r := wB.heap.size) hroom hfr
                have X1 : Ext gB hB wB (gB.add hB.next (wB.heap.size, 0, 0)) (hB.newO none) (wB.alloc (.mapIter none 0 #[] 0)) := Ext.addDead RB hroom hfr (by simp) rfl rfl rfl
                refine wpIn_block (wpIn_loop_rounds 1 ?_)
                rw [roundsIn_succ]
                refine wpIn_seq ?_
                refine head_ok sh A' ((hG.mono x1.le).mono X1.le) ht8 hit (by simp [Gh.add]) (restA := []) .nil (run_next_nil _ _ hW) fun ca2 A2 => ?_
                refine wpIn_seq (wpIn_cond_false (eval9 A' ht9 A2) (wpIn_exit ?_))
                simp only [Exit.then, Exit.inBlock, if_true]
                subst eh
                exact K .normal _ _ (List.mem_singleton.2 rfl) _ .normal ca2 _ (x1.trans X1) R1 A2 .normal
            · cases hb
        · cases hb
      · cases hb
    · cases hb
  · cases hb

theorem bindX_ok {f : AcA → H → Option (List (ExA × AcA × H))} : ∀ {l L : List (ExA × AcA × H)}, bindX f l = some L → ∀ e a h, (e, a, h) ∈ l → (e = .normal ∧ ∃ l1, f a h = some l1 ∧ ∀ x ∈ l1, x ∈ L) ∨ (e ≠ .normal ∧ (e, a, h) ∈ L)
  | [], _, _, _, _, _, hm => by cases hm
  | (e0, a0, h0) :: r, L, hb, e, a, h, hm => by
    unfold bindX at hb
    split at hb
    · cases hb
    · rename_i l hl
      have rest : ∀ {L : List (ExA × AcA × H)}, (∀ x ∈ l, x ∈ L) → (e, a, h) ∈ r → (e = .normal ∧ ∃ l1, f a h = some l1 ∧ ∀ x ∈ l1, x ∈ L) ∨ (e ≠ .normal ∧ (e, a, h) ∈ L) := fun hsub hm => by
        rcases bindX_ok hl e a h hm with ⟨h1, l1, h2, h3⟩ | ⟨h1, h2⟩
        · exact .inl ⟨h1, l1, h2, fun x hx => hsub x (h3 x hx)⟩
        · exact .inr ⟨h1, hsub _ h2⟩
      split at hb
      · split at hb
        · rename_i l1 hf
          cases hb
          rcases List.mem_cons.1 hm with e1 | hm
          · cases e1
            exact .inl ⟨rfl, l1, hf, fun x hx => List.mem_append.2 (.inl hx)⟩
          · exact rest (fun x hx => List.mem_append.2 (.inr hx)) hm
        · cases hb
      · rename_i hne
        cases hb
        rcases List.mem_cons.1 hm with e1 | hm
        · cases e1
          exact .inr ⟨fun e => hne e, by simp⟩
        · exact rest (fun x hx => List.mem_cons_of_mem _ hx) hm

theorem xC_ok (hS : Sound P G S) : ∀ c, XSound P G (xC (tiOf P) G S) c := by
  have other : ∀ (c : Code) a h L, oneX (S.c false c a h) = some L → ∀ g ca w, RA g a ca → RS g h w → GOk g G → ∀ Q : Exit → Act → World → Prop,
    (∀ e a' h', (e, a', h') ∈ L → ∀ g' ce ca' w', Ext g h w g' h' w' → RS g' h' w' → RA g' a' ca' → RelE g' e ce → Q ce ca' w') → c.wpIn (Fr none) 0 P Q ca w := by
    intro c a h L hb g ca w A R hG Q K
    cases hc : S.c false c a h with
    | fail => rw [hc] at hb; cases hb
    | ok e a1 h1 =>
      rw [hc] at hb; cases hb
      exact hS.c false c a h _ _ _ hc none rfl g ca w A R hG Q fun g' ce ca' w' => K e a1 h1 (by simp) g' ce ca' w'
  intro c
  induction c with
  | seq x y ihx ihy =>
    intro a h L hb g ca w A R hG Q K
    unfold xC at hb
    split at hb
    · rename_i l hm
      cases hb
      exact xMap_ok hS hm A R hG K
    · split at hb
      · rename_i l hx
        refine wpIn_seq (ihx a h l hx g ca w A R hG _ fun e a1 h1 hm g1 ce ca1 w1 x1 x2 x3 x4 => ?_)
        rcases bindX_ok hb e a1 h1 hm with ⟨rfl, l1, h2, h3⟩ | ⟨hne, h2⟩
        · cases x4
          exact ihy a1 h1 l1 h2 g1 ca1 w1 x3 x2 (hG.mono x1.le) Q fun e a2 h2 hm2 g2 ce ca2 w2 y1 => K e a2 h2 (h3 _ hm2) g2 ce ca2 w2 (x1.trans y1)
        · have hk := K e a1 h1 h2 g1 ce ca1 w1 x1 x2 x3 x4
          cases x4 with
          | normal => exact absurd rfl hne
          | _ => exact hk
      · cases hb
  | _ => exact fun a h L hb => other _ a h L hb
end

/-! ### functions -/
section
variable (T : TypeId → Option TI) (F : FuncId → Option Func) (G : Nat → Option (List AV)) (S : Self)
def endX (fn : Func) : List (ExA × AcA × H) → Option (List (AV × H))
  | [] => some []
  | (e, a, h) :: r => match endX fn r, a.defs with
    | some l, [] => (match e with
      | .normal => (match finishF T fn a.tmps h with | .ret v h => some ((v, h) :: l) | _ => none)
      | .ret => (match finishF T fn a.tmps h with | .ret v h => some ((v, h) :: l) | _ => none)
      | _ => none)
    | _, _ => none
def xF (f : FuncId) (args : List AV) (h : H) : Option (List (AV × H)) :=
  match F f with
  | none => none
  | some fn => match fn.body with
    | none => none
    | some c => match Nat.ble (args.length + (fn.ntmps - args.length)) 512 with
     | false => none
     | true => match xC T G S c ⟨enterE fn.ntmps args, []⟩ h with
      | some l => endX T fn l
      | none => none
end
section
variable {P : Program} {G : Nat → Option (List AV)} {S : Self}
theorem endX_ok {fn : Func} : ∀ {l : List (ExA × AcA × H)} {L : List (AV × H)}, endX (tiOf P) fn l = some L → ∀ e a h, (e, a, h) ∈ l → a.defs = [] ∧ (e = .normal ∨ e = .ret) ∧ ∃ v h', finishF (tiOf P) fn a.tmps h = .ret v h' ∧ (v, h') ∈ L
  | [], _, _, _, _, _, hm => by cases hm
  | (e0, a0, h0) :: r, L, hb, e, a, h, hm => by
    unfold endX at hb
    split at hb
    · rename_i l hl hd
      have rest : ∀ {L : List (AV × H)}, (∀ x ∈ l, x ∈ L) → (e, a, h) ∈ r → a.defs = [] ∧ (e = .normal ∨ e = .ret) ∧ ∃ v h', finishF (tiOf P) fn a.tmps h = .ret v h' ∧ (v, h') ∈ L := fun hs hm => by
        obtain ⟨h1, h2, v, h', h3, h4⟩ := endX_ok hl e a h hm
        exact ⟨h1, h2, v, h', h3, hs _ h4⟩
      split at hb
      · split at hb
        · rename_i v h' hf
          cases hb
          rcases List.mem_cons.1 hm with e1 | hm
          · cases e1; exact ⟨hd, .inl rfl, v, h', hf, by simp⟩
          · exact rest (fun x hx => List.mem_cons_of_mem _ hx) hm
        · cases hb
      · split at hb
        · rename_i v h' hf
          cases hb
          rcases List.mem_cons.1 hm with e1 | hm
          · cases e1; exact ⟨hd, .inr rfl, v, h', hf, by simp⟩
          · exact rest (fun x hx => List.mem_cons_of_mem _ hx) hm
        · cases hb
      · cases hb
    · cases hb

theorem xF_ok (hS : Sound P G S) {fid : FuncId} {args : List AV} {h : H} {L : List (AV × H)} (hb : xF (tiOf P) (fun f => P.funcs[f]?) G S fid args h = some L) {g : Gh} {w : World} {vals : List Value} (hr : RelL g args vals) (R : RS g h w) (hG : GOk g G) :
    (∃ fn, P.funcs[fid]? = some fn ∧ fn.body.isSome = true) ∧ Calls P fid vals.toArray w (fun e w' => ∃ v h', (v, h') ∈ L ∧ FPost g h w (.ret v h') e w') := by
  unfold xF at hb
  simp only at hb
  cases hf : P.funcs[fid]? with
  | none => rw [hf] at hb; cases hb
  | some fn =>
    rw [hf] at hb
    simp only at hb
    cases hbd : fn.body with
    | none => rw [hbd] at hb; cases hb
    | some c =>
      rw [hbd] at hb
      simp only at hb
      refine ⟨⟨fn, rfl, by rw [hbd]; rfl⟩, ?_⟩
      cases hble : Nat.ble (args.length + (fn.ntmps - args.length)) 512 with
      | false => rw [hble] at hb; cases hb
      | true =>
      rw [hble] at hb
      simp only at hb
      have A := enter_rel hr fn (Nat.le_of_ble_eq_true hble)
      split at hb
      · rename_i l hl
        refine callsIn_wide.1 (callsIn_of_wp_marks (n := 0) hf hbd trivial ?_)
        refine xC_ok hS c _ h l hl g _ w A R hG _ fun e a1 h1 hm g1 ce ca1 w1 x1 x2 x3 x4 => ?_
        obtain ⟨hd, he, v, h', hfin, hmem⟩ := endX_ok hb e a1 h1 hm
        have hdf := x3.df
        rw [hd] at hdf
        obtain ⟨rfl, u, h3, h4⟩ := finish_ok (P := P) x2 x3 hfin
        have fin : LeavesInM Fence.wide 0 P fn ca1.tmps (fun e w' => ∃ v h', (v, h') ∈ L ∧ FPost g h w (.ret v h') e w') ca1.defers .returning w1 := by
          generalize ca1.defers = q at hdf
          cases hdf
          exact ⟨u, h3, v, h', hmem, g1, u, rfl, x1, x2, h4⟩
        rcases he with rfl | rfl <;> cases x4 <;> exact fin
      · cases hb

/-- A cut of a function in which maps are ranged over. -/
def provXs (e : Cut) (ids : List Nat) : List (AV × H) → Bool
  | [] => true
  | (v, h) :: r => match provA e (sig e ids h.next) v h with | true => provXs e ids r | false => false
def Cut.provesX (e : Cut) (ids : List Nat) (F : FuncId → List AV → H → Option (List (AV × H))) : Bool :=
  match e.good, F e.fid e.args e.h0 with
  | true, some L => provXs e ids L
  | _, _ => false
theorem provXs_ok {e : Cut} {ids : List Nat} : ∀ {L : List (AV × H)}, provXs e ids L = true → ∀ v h, (v, h) ∈ L → provA e (sig e ids h.next) v h = true
  | [], _, _, _, hm => by cases hm
  | (v0, h0) :: r, hb, v, h, hm => by
    unfold provXs at hb
    split at hb
    · rename_i h1
      rcases List.mem_cons.1 hm with e1 | hm
      · cases e1; exact h1
      · exact provXs_ok hb v h hm
    · cases hb
theorem Cut.okX_of (e : Cut) {ids : List Nat} (hS : Sound P G S) (hb : e.provesX ids (xF (tiOf P) (fun f => P.funcs[f]?) G S) = true) : e.good = true ∧ e.Ok P G := by
  unfold Cut.provesX at hb
  split at hb
  · rename_i L hgood hf
    refine ⟨hgood, fun g w vals hr R hGk => ?_⟩
    obtain ⟨hfn, hC⟩ := xF_ok hS hf hr R hGk
    refine ⟨hfn, hC.mono fun en w' hh => ?_⟩
    obtain ⟨v, h', hm, hp⟩ := hh
    exact e.post_of hgood (provXs_ok hb v h' hm) R hp
  · cases hb
end
end
end Go.Ab
/-! What is known of functions whose maps' order is hidden: copies, and the keys in their order. -/
namespace Go.Ab
open Go
noncomputable section

/-- A cut by what turns. -/
def cutOf (fid : FuncId) (args : List AV) (pre : List AO) (v : AV) (chg : List (Nat × Option AO)) (new : List AO) : Cut :=
  { fid := fid, args := args, pre := pre, v := v, post := chg.foldl (fun l p => l.set p.1 p.2) (pre.map some), new := new }
section
variable {P : Program} {G : Nat → Option (List AV)}
theorem fnil : FSound P G (firstK []) := firstK_ok (by simp)
theorem fcons {k : FuncId → List AV → H → RF} {r : List (FuncId → List AV → H → RF)} (h : FSound P G k) (t : FSound P G (firstK r)) : FSound P G (firstK (k :: r)) := by
  intro fid args h0 x hb hn
  unfold firstK at hb
  split at hb
  · exact t _ _ _ _ hb hn
  · exact h _ _ _ _ hb hn
theorem noG : GClosed (fun _ => none) := fun b cs h => by cases h
end

/-- A copy of a map. -/
def cloneK (fid : FuncId) (f : FuncId) (args : List AV) (h : H) : RF :=
  match Nat.beq f fid, args, h.room with
  | true, [.map id], true => (match h.get id with | some (.map es) => .ret (.map h.next) (h.new (.map es)) | _ => .fail)
  | _, _, _ => .fail
/-- A key that is a small number. -/
def smallK (a : AV) : Option Nat := match a with | .int .i64 (.ofNat n) => (match Nat.ble n 1000000 with | true => some n | false => none) | _ => none
def insK (n : Nat) : List Nat → List Nat
  | [] => [n]
  | m :: r => match Nat.ble n m with | true => n :: m :: r | false => m :: insK n r
def keysK : List (AV × AV) → Option (List Nat)
  | [] => some []
  | p :: r => match smallK p.1, p.2, keysK r with | some n, .agg [], some l => some (insK n l) | _, _, _ => none
/-- The keys of a set of numbers, rising. -/
def rowK (fid : FuncId) (f : FuncId) (args : List AV) (h : H) : RF :=
  match Nat.beq f fid, args, h.room with
  | true, [.map id], true => (match h.get id with
    | some (.map es) => (match intKB es, Nat.ble es.length 100000, keysK es with
      | true, true, some [] => .ret .nilsl h
      | true, true, some (n :: l) => .ret (.sl 1 h.next 0 (n :: l).length none) (h.new (.cells ((n :: l).map fun n => .int .i64 (.ofNat n))))
      | _, _, _ => .fail)
    | _ => .fail)
  | _, _, _ => .fail
end
end Go.Ab
