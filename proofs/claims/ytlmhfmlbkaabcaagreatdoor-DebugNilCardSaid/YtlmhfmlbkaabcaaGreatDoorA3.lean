/- The shadow machine, a part: what it answers holds of the model, whatever order is drawn. No condition. -/
import Derived.Test.YtlmhfmlbkaabcaaGreatDoorA2
import Derived.LoopNIn
import Derived.RecoverIn
set_option linter.all false
set_option linter.unusedVariables false
set_option linter.unusedSimpArgs false
/-! Scopes inside a fence; a deferred function that asks 'recover' where nothing dies. -/
namespace Go
section
variable {F : Fence} {n : Nat} {P : Program} {Q : Exit → Act → World → Prop} {a : Act} {w : World} {b : Frame} {k : List Item} {cs : List Frame}
theorem stepR_scope {c : Code} : step P (lone (b.atR a (.code (.scope c) :: k)) cs w) = .next (lone (b.atR a (.code c :: .inScope c :: k)) cs w) :=
  step_lone_go (by simp [stepG, stepG.exec, Frame.atR])
theorem stepR_inScope {c : Code} : step P (lone (b.atR a (.inScope c :: k)) cs w) = .next (lone (b.atR a k) cs w) :=
  step_lone_go (by simp [stepG, stepG.exec, Frame.atR])

/-- The run from a place of a scope's text to the scope's end. -/
def Code.scopeIn (F : Fence) (n : Nat) (P : Program) (c cur : Code) (Q : Exit → Act → World → Prop) (a : Act) (w : World) : Prop :=
  ∀ (b : Frame) (k : List Item) (cs : List Frame), b.roundOf = F.round → F.fn b.fn → F.room (cs.length + 1 + n) →
    ∃ e a' w', Q e a' w' ∧ ArrivesIn (Machine.fenced P F) P (lone (b.atR a (.code cur :: .inScope c :: k)) cs w) b k cs e a' w'
def Exit.scoped (F : Fence) (n : Nat) (P : Program) (c : Code) (Q : Exit → Act → World → Prop) : Exit → Act → World → Prop
  | .goto l, a, w => ∃ rest, findLabel c l = some rest ∧ c.scopeIn F n P rest Q a w
  | e, a, w => Q e a w
theorem scopeIn_of {c cur : Code} (h : cur.wpIn F n P (Exit.scoped F n P c Q) a w) : c.scopeIn F n P cur Q a w := by
  intro b k cs hro hb hr
  obtain ⟨e, a₁, w₁, hq, harr⟩ := h b (.inScope c :: k) cs hro hb hr
  cases e with
  | normal => exact ⟨.normal, a₁, w₁, hq, StepsIn.trans harr (.one (fenced_calm hb hr rfl) stepR_inScope)⟩
  | exit id =>
    have hx : exitTo id (.inScope c :: k) = exitTo id k := by simp [exitTo]
    exact ⟨.exit id, a₁, w₁, hq, fun k' hk => harr.1 k' (by rw [hx]; exact hk), fun hr' hk => harr.2 hr' (by rw [hx]; exact hk)⟩
  | goto l =>
    obtain ⟨rest, hf, hs⟩ := hq
    obtain ⟨e₂, a₂, w₂, hq₂, harr₂⟩ := hs b k cs hro hb hr
    exact ⟨e₂, a₂, w₂, hq₂, .of_steps (harr.1 _ (by simp [gotoIn, hf])) harr₂⟩
  | ret => exact ⟨_, a₁, w₁, hq, harr⟩
  | panic ch => exact ⟨_, a₁, w₁, hq, harr⟩
  | outgrown => exact ⟨_, a₁, w₁, hq, harr⟩
theorem wpIn_scope {c : Code} (h : c.scopeIn F n P c Q a w) : (Code.scope c).wpIn F n P Q a w := by
  intro b k cs hro hb hr
  obtain ⟨e, a₁, w₁, hq, harr⟩ := h b k cs hro hb hr
  exact ⟨e, a₁, w₁, hq, .of_steps (.one (fenced_calm hb hr rfl) stepR_scope) harr⟩
theorem wpSIn_mono {c : Code} {Q Q' : Exit → Act → List Frame → World → Prop} (h : c.wpSIn F n P Q a cs w) (hq : ∀ e a cs w, Q e a cs w → Q' e a cs w) : c.wpSIn F n P Q' a cs w :=
  fun b k h1 h2 h3 h4 => let ⟨e, a', cs', w', l, q, r⟩ := h b k h1 h2 h3 h4; ⟨e, a', cs', w', l, hq _ _ _ _ q, r⟩
end
end Go

namespace Go.Ab
open Go
noncomputable section
def isRec (o : Oper) : Bool := match o.op with | .call c => (match c.callee with | .builtin .recover => true | _ => false) | _ => false
def hasRec : List Oper → Bool | [] => false | o :: r => (match isRec o with | true => true | false => hasRec r)
/-- Neither a call nor a panic nor a defer. -/
def isPlain (o : Oper) : Bool := match o.op with | .call _ => false | .panic _ => false | .defer _ => false | _ => true

inductive RM where | ok (e : ExA) (a : AcA) (h : H) (m : MA) | fail
def recV : MA → AV | .pan v => v | _ => .niliface
def recM : MA → MA | .pan _ => .done | m => m
section
variable (T : TypeId → Option TI) (G : Nat → Option (List AV))
/-- A region of a deferred function that asks 'recover'. -/
def recOps (ops : List Oper) : List Oper → AcA → H → MA → RM
  | [], a, h, m => .ok .normal a h m
  | o :: r, a, h, m => match wantedA ops o a.tmps with
    | none => .fail
    | some false => recOps ops r (a.put o.dst undefA) h m
    | some true => match isRec o with
      | true => recOps ops r (a.put o.dst (recV m)) h (recM m)
      | false => match isPlain o, opA T (ev G a.tmps) h o.op with
        | true, some (v, h) => recOps ops r (a.put o.dst v) h m
        | _, _ => .fail
def recS (m : MA) : RC → RM | .ok e a h => .ok e a h m | .fail => .fail
def recC (sc : Bool → Code → AcA → H → RC) : Code → AcA → H → MA → RM
  | .seq x y, a, h, m => (match recC sc x a h m with
    | .ok .normal a h m => recC sc y a h m
    | r => r)
  | .region id ops d, a, h, m => (match d, hasRec ops.toList with
    | false, true => recOps T G ops.toList ops.toList a h m
    | d, _ => recS m (sc false (.region id ops d) a h))
  | c, a, h, m => recS m (sc false c a h)
end

section
variable {P : Program} {G : Nat → Option (List AV)}

theorem recover_run {g : Gh} {m : MA} {c0 : Frame} {cs : List Frame} (hm : ModeR g m c0.mode) : (recoverD (c0 :: cs) = none ∧ recV m = .niliface ∧ recM m = m) ∨ ∃ v u', recoverD (c0 :: cs) = some (v, { c0 with mode := u' } :: cs) ∧ Rel g (recV m) v ∧ ModeR g (recM m) u' := by
  generalize hq : c0.mode = q at hm
  cases hm with
  | ret => exact .inl ⟨by simp [recoverD, hq], rfl, rfl⟩
  | done v => exact .inl ⟨by simp [recoverD, hq], rfl, rfl⟩
  | pan a v h => exact .inr ⟨v, .panicking [{ v, recovered := true }], by simp [recoverD, hq], h, .done v⟩

theorem recOps_ok {ops : Array Oper} {cs : List Frame} : ∀ (l : List Oper) (i : Nat), (∀ k, l[k]? = ops[i + k]?) → ∀ (a : AcA) (h : H) (m : MA) {e : ExA} {a' : AcA} {h' : H} {m' : MA}, recOps (tiOf P) G ops.toList l a h m = .ok e a' h' m' →
    ∀ g (c0 : Frame) ca w, ModeR g m c0.mode → RA g a ca → RS g h w → GOk g G → ∀ Q : Exit → Act → List Frame → World → Prop,
    (∀ g' ce ca' w' u', Ext g h w g' h' w' → RS g' h' w' → RA g' a' ca' → RelE g' e ce → ModeR g' m' u' → Q ce ca' ({ c0 with mode := u' } :: cs) w') → wpOpsSIn (Fr none) 0 P ops Q (List.range' i l.length) ca (c0 :: cs) w
  | [], i, _, a, h, m, e, a', h', m', hb, g, c0, ca, w, M, A, R, hG, Q, K => by
    cases hb
    exact K g .normal ca w c0.mode (.refl g h w) R A .normal M
  | o :: r, i, hl, a, h, m, e, a', h', m', hb, g, c0, ca, w, M, A, R, hG, Q, K => by
    have ho : ops[i]? = some o := by have := hl 0; simpa using this.symm
    have hl' : ∀ k, r[k]? = ops[i + 1 + k]? := fun k => by
      have := hl (k + 1)
      rw [List.getElem?_cons_succ] at this
      rw [this, show i + (k + 1) = i + 1 + k by omega]
    rw [List.length_cons, List.range'_succ]
    unfold wpOpsSIn
    rw [ho]
    simp only
    refine ⟨about_fr, ?_⟩
    unfold recOps at hb
    split at hb
    · cases hb
    · rename_i hw
      rw [wanted_ok A hw]
      simp only [Bool.false_eq_true, if_false]
      exact recOps_ok r (i + 1) hl' _ h m hb g c0 _ w M (A.put (Rel.undef g) o.dst) R hG Q K
    · rename_i hw
      rw [wanted_ok A hw]
      simp only [if_true]
      split at hb
      · rename_i hr
        have hrun : (execOp ca.eval o).run P w = .ok .recover w := by
          unfold isRec at hr
          split at hr
          · rename_i c hc
            split at hr
            · rename_i hcal
              unfold execOp
              simp only [hc]
              unfold resolve
              simp only [hcal, Sem.run_bind, Sem.run_pure, Result.andThen_ok]
              rfl
            · cases hr
          · cases hr
        rw [hrun]
        simp only
        rcases recover_run (cs := cs) M with ⟨h1, h2, h3⟩ | ⟨v, u', h1, h2, h3⟩
        · rw [h1]
          rw [h2, h3] at hb
          exact recOps_ok r (i + 1) hl' _ h m hb g c0 _ w M (A.put .niliface o.dst) R hG Q K
        · rw [h1]
          exact recOps_ok r (i + 1) hl' _ h _ hb g { c0 with mode := u' } _ w h3 (A.put h2 o.dst) R hG Q K
      · split at hb
        · rename_i v h1 hp ho
          obtain ⟨u, w', g', h1, h2, h3, h4⟩ := op_ok (P := P) (o := o) R (ev_ok hG A) ho
          rcases h1 with h1 | ⟨h1, rfl⟩
          · rw [h1]
            exact recOps_ok r (i + 1) hl' _ _ m hb g' c0 _ w' (M.mono h2.le) ((A.mono h2.le).put h4 o.dst) h3 (hG.mono h2.le) Q fun g2 ce ca2 w2 u2 y1 => K g2 ce ca2 w2 u2 (h2.trans y1)
          · rw [h1]
            exact recOps_ok r (i + 1) hl' _ _ m hb g' c0 _ w' (M.mono h2.le) ((A.mono h2.le).put h4 o.dst) h3 (hG.mono h2.le) Q fun g2 ce ca2 w2 u2 y1 => K g2 ce ca2 w2 u2 (h2.trans y1)
        · cases hb

theorem recC_ok {sc : Bool → Code → AcA → H → RC} (hS : CSound P G sc) {cs : List Frame} : ∀ (c : Code) (a : AcA) (h : H) (m : MA) {e : ExA} {a' : AcA} {h' : H} {m' : MA}, recC (tiOf P) G sc c a h m = .ok e a' h' m' →
    ∀ g (c0 : Frame) ca w, ModeR g m c0.mode → RA g a ca → RS g h w → GOk g G → ∀ Q : Exit → Act → List Frame → World → Prop,
    (∀ g' ce ca' w' u', Ext g h w g' h' w' → RS g' h' w' → RA g' a' ca' → RelE g' e ce → ModeR g' m' u' → Q ce ca' ({ c0 with mode := u' } :: cs) w') → c.wpSIn (Fr none) 0 P Q ca (c0 :: cs) w := by
  have other : ∀ (c : Code) (a : AcA) (h : H) (m : MA) {e : ExA} {a' : AcA} {h' : H} {m' : MA}, recS m (sc false c a h) = .ok e a' h' m' →
    ∀ g (c0 : Frame) ca w, ModeR g m c0.mode → RA g a ca → RS g h w → GOk g G → ∀ Q : Exit → Act → List Frame → World → Prop,
    (∀ g' ce ca' w' u', Ext g h w g' h' w' → RS g' h' w' → RA g' a' ca' → RelE g' e ce → ModeR g' m' u' → Q ce ca' ({ c0 with mode := u' } :: cs) w') → c.wpSIn (Fr none) 0 P Q ca (c0 :: cs) w := by
    intro c a h m e a' h' m' hb g c0 ca w M A R hG Q K
    cases hs : sc false c a h with
    | fail => rw [hs] at hb; cases hb
    | ok e1 a1 h1 =>
      rw [hs] at hb; cases hb
      exact wpSIn_of_wpIn rfl (hS false c a h _ _ _ hs none rfl g ca w A R hG _ fun g' ce ca' w' x1 x2 x3 x4 => K g' ce ca' w' c0.mode x1 x2 x3 x4 (M.mono x1.le))
  intro c
  induction c with
  | seq x y ihx ihy =>
    intro a h m e a' h' m' hb g c0 ca w M A R hG Q K
    unfold recC at hb
    refine wpSIn_seq ?_
    cases hx : recC (tiOf P) G sc x a h m with
    | fail => rw [hx] at hb; cases hb
    | ok e1 a1 h1 m1 =>
      rw [hx] at hb
      refine ihx a h m hx g c0 ca w M A R hG _ fun g1 ce ca1 w1 u1 x1 x2 x3 x4 x5 => ?_
      cases x4 with
      | normal => exact ihy a1 h1 m1 hb g1 { c0 with mode := u1 } ca1 w1 x5 x3 x2 (hG.mono x1.le) Q fun g2 ce ca2 w2 u2 y1 => K g2 ce ca2 w2 u2 (x1.trans y1)
      | exit id => cases hb; exact K g1 _ ca1 w1 u1 x1 x2 x3 (.exit id) x5
      | goto l => cases hb; exact K g1 _ ca1 w1 u1 x1 x2 x3 (.goto l) x5
      | ret => cases hb; exact K g1 _ ca1 w1 u1 x1 x2 x3 .ret x5
      | panic v u hu => cases hb; exact K g1 _ ca1 w1 u1 x1 x2 x3 (.panic v u hu) x5
  | region id ops d =>
    intro a h m e a' h' m' hb g c0 ca w M A R hG Q K
    unfold recC at hb
    split at hb
    · refine wpSIn_region ?_
      have := recOps_ok (cs := cs) ops.toList 0 (fun k => by simp) a h m hb g c0 ca w M A R hG Q K
      rw [List.range_eq_range']
      simpa using this
    · exact other _ a h m hb g c0 ca w M A R hG Q K
  | _ => exact fun a h m _ _ _ _ hb => other _ a h m hb
end
end
end Go.Ab
/-! Code, functions, and the machine. -/
namespace Go.Ab
open Go
noncomputable section

section
variable (K : FuncId → List AV → H → RF) (T : TypeId → Option TI) (F : FuncId → Option Func) (G : Nat → Option (List AV)) (D : Self → Bool → List Oper → AcA → H → RC) (S : Self)

def stepC (rd : Bool) (c : Code) (a : AcA) (h : H) : RC :=
  match c with
  | .skip => .ok .normal a h
  | .label _ => .ok .normal a h
  | .region _ ops d => (match d with | false => stepOps T G S rd ops.toList ops.toList a h | true => D S rd ops.toList a h)
  | .seq x y => (match S.c rd x a h with
    | .ok .normal a h => S.c rd y a h
    | r => r)
  | .cond c t e => (match ev G a.tmps c with
    | .bool true => S.c rd t a h
    | .bool false => S.c rd e a h
    | _ => .fail)
  | .block id b => (match S.c rd b a h with
    | .ok (.exit i) a h => (match Nat.beq i id with | true => .ok .normal a h | false => .ok (.exit i) a h)
    | r => r)
  | .loop b => S.l rd b a h
  | .exit id => .ok (.exit id) a h
  | .goto l => .ok (.goto l) a h
  | .ret => .ok .ret a h
  | .scope c => S.s rd c c a h
  | .rangeFunc f ps assign body => (match rd, h.room, (h.new .dfr).room, ev G a.tmps f with
    | false, true, true, .func (.func fid) [] cap =>
      (match S.f fid (.yield (h.new .dfr).next :: cap) ((h.new .dfr).new (.loop .ready none a.tmps ps assign body)) with
      | .ret _ h3 => (match h3.get (h.new .dfr).next with
        | some (.loop st pe tm ps as bo) => (match st with
          | .busy => .fail
          | _ => (match pe with
            | none => .ok .normal { a with defs := .mark h.next :: a.defs } (h3.set (h.new .dfr).next (some (.loop .exhausted pe tm ps as bo)))
            | some c => S.c false c { a with defs := .mark h.next :: a.defs } (h3.set (h.new .dfr).next (some (.loop .exhausted pe tm ps as bo)))))
        | _ => .fail)
      | _ => .fail)
    | _, _, _, _ => .fail)
  | _ => .fail

def stepL (rd : Bool) (b : Code) (a : AcA) (h : H) : RC :=
  match S.c rd b a h with
  | .ok .normal a h => S.l rd b a h
  | r => r

/-- From a place of a scope's text to the scope's end. -/
def stepSc (rd : Bool) (c cur : Code) (a : AcA) (h : H) : RC :=
  match S.c rd cur a h with
  | .ok (.goto l) a h => (match findLabel c l with | some rest => S.s rd c rest a h | none => .fail)
  | r => r

def lsets : Env → List Tmp → List AV → Env
  | tm, t :: ts, v :: vs => lsets (eset tm t v) ts vs
  | tm, _, _ => tm
def endY (id : Nat) (e : ExA) (h : H) : RF :=
  match h.get id with
  | some (.loop _ _ tm ps as bo) => (match e with
    | .normal => .ret (.bool true) (h.set id (some (.loop .ready none tm ps as bo)))
    | .ret => .ret (.bool false) (h.set id (some (.loop .done (some .ret) tm ps as bo)))
    | .exit i => .ret (.bool false) (h.set id (some (.loop .done (some (.exit i)) tm ps as bo)))
    | .goto i => .ret (.bool false) (h.set id (some (.loop .done (some (.goto i)) tm ps as bo)))
    | .panic _ => .fail)
  | _ => .fail
/-- One round of a range over a function. -/
def stepY (id : Nat) (args : List AV) (h : H) : RF :=
  match h.get id with
  | some (.loop _ _ tm ps as bo) => (match Nat.beq args.length ps.size with
    | true => (match S.c true as ⟨lsets tm ps.toList args, []⟩ h with
      | .ok .normal a h => (match h.get id with
        | some (.loop .ready pe tm ps as' bo') => (match S.c true bo a (h.set id (some (.loop .busy pe tm ps as' bo'))) with
          | .ok e _ h => endY id e h
          | .fail => .fail)
        | _ => .fail)
      | _ => .fail)
    | false => .fail)
  | _ => .fail

def resA (h : H) (tm : Env) : List ResultVar → Option (List AV)
  | [] => some []
  | .tmp t :: r => (match resA h tm r with | some l => some (eget tm t :: l) | none => none)
  | .cell p t :: r => (match T t, cellsOf h (eget tm p), resA h tm r with
    | some ti, some (cs, off), some l => (match readA ti cs off with | some v => some (v :: l) | none => none)
    | _, _, _ => none)
def packR : List AV → AV | [v] => v | vs => .tup vs
def fillE : Env → Nat → List AV → Env
  | e, _, [] => e
  | e, i, v :: r => fillE (eset e i v) (i + 1) r
def enterE (n : Nat) (args : List AV) : Env := fillE (Env.nil (args.length + (n - args.length))) 0 args

def finishF (fn : Func) (tm : Env) (h : H) : RF :=
  match resA T h tm fn.results.toList with
  | some vs => .ret (packR vs) h
  | none => .fail

/-- Behind the deferred calls. -/
def leaveF (fn : Func) (tm : Env) : RD → RF
  | .ok .ret h => finishF T fn tm h
  | .ok (.pan v) h => .panic v h
  | _ => .fail
def stepF (f : FuncId) (args : List AV) (h : H) : RF :=
  match F f with
  | none => .fail
  | some fn => match fn.body with
    | none => .fail
    | some c => match Nat.ble (args.length + (fn.ntmps - args.length)) 512 with
     | false => .fail
     | true => match S.c false c ⟨enterE fn.ntmps args, []⟩ h with
      | .ok .normal a h => (match a.defs with
        | [] => finishF T fn a.tmps h
        | ds => leaveF T fn a.tmps (S.ds .ret ds h))
      | .ok .ret a h => (match a.defs with
        | [] => finishF T fn a.tmps h
        | ds => leaveF T fn a.tmps (S.ds .ret ds h))
      | .ok (.panic v) a h => (match a.defs with | [] => .panic v h | ds => leaveF T fn a.tmps (S.ds (.pan v) ds h))
      | _ => .fail
/-- What is known ahead of time; else as it runs. -/
def stepK (f : FuncId) (args : List AV) (h : H) : RF := match K f args h with | .fail => stepF T F S f args h | r => r
/-- A deferred call of a function that defers nothing itself. -/
def stepFd (m : MA) (f : FuncId) (args : List AV) (h : H) : RD :=
  match F f with
  | none => .fail
  | some fn => match fn.body with
    | none => .fail
    | some c => match Nat.ble (args.length + (fn.ntmps - args.length)) 512 with
     | false => .fail
     | true => match recC T G S.c c ⟨enterE fn.ntmps args, []⟩ h m with
      | .ok .normal a h m => (match a.defs, finishF T fn a.tmps h with | [], .ret _ h => .ok m h | _, _ => .fail)
      | .ok .ret a h m => (match a.defs, finishF T fn a.tmps h with | [], .ret _ h => .ok m h | _, _ => .fail)
      | _ => .fail
def stepDs (m : MA) (ds : List DefA) (h : H) : RD :=
  match ds with
  | [] => .ok m h
  | .fn (.func f) cap args :: r => (match S.fd m f (args ++ cap) h with
      | .ok m h => S.ds m.settle r h
      | _ => .fail)
  | .mark id :: r => (match h.get id with
      | some .dfr => S.ds m r (h.set id none)
      | _ => .fail)
  | _ => .fail

def self : Nat → Self
  | 0 => ⟨fun _ _ _ _ => .fail, fun _ _ _ _ => .fail, fun _ _ _ _ _ => .fail, fun _ _ _ => .fail, fun _ _ _ => .fail, fun _ _ _ _ => .fail, fun _ _ _ => .fail⟩
  | n + 1 => ⟨stepC T G D (self n), stepL (self n), stepSc (self n), stepY (self n), stepK K T F (self n), stepFd T F G (self n), stepDs (self n)⟩
end

def LSound (P : Program) (G : Nat → Option (List AV)) (f : Bool → Code → AcA → H → RC) : Prop :=
  ∀ rd c a h e a' h', f rd c a h = .ok e a' h' → ∀ r : Option Nat, r.isSome = rd → ∃ n, ∀ g ca w, RA g a ca → RS g h w → GOk g G → ∀ Q : Exit → Act → World → Prop,
    (∀ g' ce ca' w', Ext g h w g' h' w' → RS g' h' w' → RA g' a' ca' → RelE g' e ce → Q ce ca' w') → Code.roundsIn (Fr r) 0 P c Q n ca w
def SSound (P : Program) (G : Nat → Option (List AV)) (f : Bool → Code → Code → AcA → H → RC) : Prop :=
  ∀ rd c cur a h e a' h', f rd c cur a h = .ok e a' h' → ∀ r : Option Nat, r.isSome = rd → ∀ g ca w, RA g a ca → RS g h w → GOk g G → ∀ Q : Exit → Act → World → Prop,
    (∀ g' ce ca' w', Ext g h w g' h' w' → RS g' h' w' → RA g' a' ca' → RelE g' e ce → Q ce ca' w') → c.scopeIn (Fr r) 0 P cur Q ca w
def FdSound (P : Program) (G : Nat → Option (List AV)) (f : MA → FuncId → List AV → H → RD) : Prop :=
  ∀ m fid args h m' h', f m fid args h = .ok m' h' → ∀ g w vals u, RelL g args vals → ModeR g m u → RS g h w → GOk g G → (∃ fn, P.funcs[fid]? = some fn ∧ fn.body.isSome = true) ∧
    CallsDIn Fence.wide 0 P fid vals.toArray u w (fun e u' w' => ∃ v g', e = .returned v ∧ ModeR g' m' u' ∧ Ext g h w g' h' w' ∧ RS g' h' w')
structure Sound (P : Program) (G : Nat → Option (List AV)) (S : Self) : Prop where
  c : CSound P G S.c
  l : LSound P G S.l
  s : SSound P G S.s
  y : YSound P G S.y
  f : FSound P G S.f
  fd : FdSound P G S.fd
  ds : DSound P G S.ds

section
variable {P : Program} {G : Nat → Option (List AV)} {D : Self → Bool → List Oper → AcA → H → RC} {S : Self}

theorem callsD_mono {F : Fence} {n : Nat} {f : FuncId} {args : Array Value} {u : FrameMode} {w : World} {R R' : Ending → FrameMode → World → Prop} (h : CallsDIn F n P f args u w R) (hr : ∀ e u w, R e u w → R' e u w) : CallsDIn F n P f args u w R' :=
  ⟨h.1, fun c cs hc hroom => let ⟨e, u', w', fr, r, s⟩ := h.2 c cs hc hroom; ⟨e, u', w', fr, hr _ _ _ r, s⟩⟩
/-- Another block turns, which is nobody's. -/
theorem RS.of_other {g : Gh} {h : H} {w w' : World} (R : RS g h w) {b : Nat} (hfr : ∀ b', b' < w.heap.size → b' ≠ b → w'.heap[b']? = w.heap[b']?) (hno : ¬ own g h b) : (∀ i v, g.I b i = some v → False) → RS g h w' := fun hI =>
  ⟨fun id ao b' o c h1 h2 => (R.obj id ao b' o c h1 h2).mono (.refl g) (hfr b' (R.obj id ao b' o c h1 h2).lt fun e => hno ⟨id, ao, o, c, h1, e ▸ h2⟩), R.disj, fun b' i v hIv => by
    obtain ⟨h1, h2⟩ := R.imm b' i v hIv
    exact ⟨(cell?_of_heap i (hfr b' (lt_of_cell? h1) fun e => hI i v (e ▸ hIv))).trans h1, h2⟩, R.fresh, R.small⟩

/-- What a drawn region must do. -/
def DrawSound (P : Program) (G : Nat → Option (List AV)) (D : Self → Bool → List Oper → AcA → H → RC) : Prop :=
  ∀ S, Sound P G S → ∀ rd (id : Nat) (ops : Array Oper) a h e a' h', D S rd ops.toList a h = .ok e a' h' → ∀ r : Option Nat, r.isSome = rd → ∀ g ca w, RA g a ca → RS g h w → GOk g G → ∀ Q : Exit → Act → World → Prop,
    (∀ g' ce ca' w', Ext g h w g' h' w' → RS g' h' w' → RA g' a' ca' → RelE g' e ce → Q ce ca' w') → (Code.region id ops true).wpIn (Fr r) 0 P Q ca w

theorem heap_put {w : World} {b b' : Nat} {o : Obj} (h : b' ≠ b) : (w.putObj b o).heap[b']? = w.heap[b']? := by
  simp [World.putObj, Array.getElem?_setIfInBounds_ne (Ne.symm h)]
theorem heap_put_same {w : World} {b : Nat} {o : Obj} (h : b < w.heap.size) : (w.putObj b o).heap[b]? = some o := by
  simp [World.putObj, h]
theorem size_put {w : World} {b : Nat} {o : Obj} : (w.putObj b o).heap.size = w.heap.size := by simp [World.putObj]

/-- The loop's record turns. -/
theorem loop_put {g : Gh} {h : H} {w : World} (R : RS g h w) {id b o c : Nat} {st st' : LoopState} {pe pe' : Option Code} {tm : Env} {ps : Array Tmp} {as bo : Code} (hid : h.get id = some (.loop st pe tm ps as bo)) (hφ : g.φ id = some (b, o, c)) :
    ∃ (fn : FuncId) (tmps : Array Value) (d : Nat), w.heap[b]? = some (.loop { state := st, pending := pe, fn := fn, tmps := tmps, params := ps, assign := as, body := bo, defers := d }) ∧ RelT g tm tmps.toList ∧
      Ext g h w g (h.set id (some (.loop st' pe' tm ps as bo))) (w.putObj b (.loop { state := st', pending := pe', fn := fn, tmps := tmps, params := ps, assign := as, body := bo, defers := d })) ∧
      RS g (h.set id (some (.loop st' pe' tm ps as bo))) (w.putObj b (.loop { state := st', pending := pe', fn := fn, tmps := tmps, params := ps, assign := as, body := bo, defers := d })) := by
  obtain ⟨fn, tmps, d, h1, h2⟩ := R.obj _ _ _ _ _ hid hφ
  have hlt : b < w.heap.size := (Array.getElem?_eq_some_iff.1 h1).1
  refine ⟨fn, tmps, d, h1, h2, Ext.upd hid hφ (by rw [size_put]; exact Nat.le_refl _) (fun b' _ hne => heap_put hne) rfl rfl rfl, R.upd hid hφ (fun b' _ hne => heap_put hne) ⟨fn, tmps, d, heap_put_same hlt, h2⟩⟩

theorem rangeFunc_ok (hS : Sound P G S) {h : H} {a : AcA} {f : Operand} {ps : Array Tmp} {assign body : Code} {fid : FuncId} {cap : List AV} {e : ExA} {a' : AcA} {h' : H} (hroom : h.room = true) (hroom2 : (h.new .dfr).room = true) (hf : ev G a.tmps f = .func (.func fid) [] cap)
    (hb : (match S.f fid (.yield (h.new .dfr).next :: cap) ((h.new .dfr).new (.loop .ready none a.tmps ps assign body)) with
      | .ret _ h3 => (match h3.get (h.new .dfr).next with
        | some (.loop st pe tm ps as bo) => (match st with
          | .busy => .fail
          | _ => (match pe with
            | none => .ok .normal { a with defs := .mark h.next :: a.defs } (h3.set (h.new .dfr).next (some (.loop .exhausted pe tm ps as bo)))
            | some c => S.c false c { a with defs := .mark h.next :: a.defs } (h3.set (h.new .dfr).next (some (.loop .exhausted pe tm ps as bo)))))
        | _ => .fail)
      | _ => .fail) = RC.ok e a' h') (hN : NoOwn P) (g : Gh) (ca : Act) (w : World) (A : RA g a ca) (R : RS g h w) (hG : GOk g G) (Q : Exit → Act → World → Prop)
    (K : ∀ g' ce ca' w', Ext g h w g' h' w' → RS g' h' w' → RA g' a' ca' → RelE g' e ce → Q ce ca' w') : (Code.rangeFunc f ps assign body).wpIn (Fr none) 0 P Q ca w := by
  have hfv := ev_ok hG A f
  rw [hf] at hfv
  generalize hq : ca.eval f = q at hfv
  cases hfv with
  | func _ _ _ fl cl hfl hcl =>
  cases hfl
  split at hb
  · rename_i v0 h3 hcall
    refine wpIn_rangeFunc fun fn _ => ?_
    -- the two records
    have hd0 : ∀ b', b' < w.heap.size → (w.alloc (.deferred (some []))).heap[b']? = w.heap[b']? := fun b' hb => Go.RowKit.Below.heap_alloc w _ b' hb
    have hd1 : (w.alloc (.deferred (some []))).heap[w.heap.size]? = some (.deferred (some [])) := World.alloc_heap_new w _
    have R1 : RS (g.add h.next (w.heap.size, 0, 0)) (h.new .dfr) (w.alloc (.deferred (some []))) := R.alloc hroom hd0 hd1
    have X1 : Ext g h w (g.add h.next (w.heap.size, 0, 0)) (h.new .dfr) (w.alloc (.deferred (some []))) := Ext.alloc R (by simp) hd0 rfl rfl rfl
    have A1 := A.mono X1.le
    obtain ⟨W, hW⟩ : ∃ W, (w.alloc (.deferred (some []))).alloc (.loop { state := .ready, pending := none, fn := fn, tmps := ca.tmps, params := ps, assign := assign, body := body, defers := w.heap.size }) = W := ⟨_, rfl⟩
    have hs1 : (w.alloc (.deferred (some []))).heap.size = w.heap.size + 1 := by simp
    have hl0 : ∀ b', b' < (w.alloc (.deferred (some []))).heap.size → W.heap[b']? = (w.alloc (.deferred (some []))).heap[b']? := fun b' hb => hW ▸ Go.RowKit.Below.heap_alloc _ _ b' hb
    have hle2 : (g.add h.next (w.heap.size, 0, 0)).le ((g.add h.next (w.heap.size, 0, 0)).add (h.new .dfr).next ((w.alloc (.deferred (some []))).heap.size, 0, 0)) := Gh.le_add (R1.fresh _ (Nat.le_refl _)).1
    have hl1 : LoopAt ((g.add h.next (w.heap.size, 0, 0)).add (h.new .dfr).next ((w.alloc (.deferred (some []))).heap.size, 0, 0)) W (w.alloc (.deferred (some []))).heap.size .ready none a.tmps ps assign body :=
      ⟨fn, ca.tmps, w.heap.size, hW ▸ World.alloc_heap_new _ _, A1.tm.mono hle2⟩
    have R2 := R1.alloc (c := 0) (ao := .loop .ready none a.tmps ps assign body) hroom2 hl0 hl1
    have X2 : Ext (g.add h.next (w.heap.size, 0, 0)) (h.new .dfr) (w.alloc (.deferred (some []))) _ ((h.new .dfr).new (.loop .ready none a.tmps ps assign body)) W :=
      Ext.alloc (c := 0) R1 (by rw [← hW]; simp) hl0 (by rw [← hW]; rfl) (by rw [← hW]; rfl) (by rw [← hW]; rfl)
    generalize hg2 : (g.add h.next (w.heap.size, 0, 0)).add (h.new .dfr).next ((w.alloc (.deferred (some []))).heap.size, 0, 0) = g2 at *
    have hφL : g2.φ (h.new .dfr).next = some (w.heap.size + 1, 0, 0) := by rw [← hg2, ← hs1]; simp [Gh.add]
    have hφD : g2.φ h.next = some (w.heap.size, 0, 0) := X2.le.φ _ _ (by simp [Gh.add])
    have X12 := X1.trans X2
    obtain ⟨⟨fnn, hfn, hbody⟩, hC⟩ := hS.f fid _ _ _ hcall (by simp) g2 W ((Value.func (.yield (w.heap.size + 1)) #[] #[]) :: cl) (.cons _ _ _ _ (.yield _ _ _ _ hφL) (hcl.mono X12.le)) R2 (hG.mono X12.le)
    refine ⟨w.heap.size + 1, [{ target := .collected w.heap.size, args := #[] }], W, { target := .fn (.func fid) cl.toArray, args := #[.func (.yield (w.heap.size + 1)) #[] #[]] }, W, fid,
      (Value.func (.yield (w.heap.size + 1)) #[] #[] :: cl).toArray, W, ?_, ?_, fun _ _ => trivial, ?_, depth_fr, ?_⟩
    · rw [← hW]; exact run_enterLoop_outer _ _ _ _ _
    · simp only [resolve, hq]
      simp [go_sem]
    · unfold invoke
      have e1 : (#[.func (.yield (w.heap.size + 1)) #[] #[]] ++ cl.toArray : Array Value) = (Value.func (.yield (w.heap.size + 1)) #[] #[] :: cl).toArray := by apply Array.ext'; simp
      simp only [e1]
      exact run_call hN hfn hbody _ W
    · refine calls_fr (r := none) (hC.mono fun en w3 hh => ?_)
      obtain ⟨g3, u, rfl, x1, x2, x3⟩ := hh
      have hφL3 := x1.le.φ _ _ hφL
      have hφD3 := x1.le.φ _ _ hφD
      split at hb
      · rename_i st pe tm ps' as bo hid
        obtain ⟨fn', tmps', d', hw3, _, y1, y2⟩ := loop_put (st' := .exhausted) (pe' := pe) x2 hid hφL3
        have hnb : st ≠ .busy := fun e => by subst e; cases hb
        have hend := run_endLoop (P := P) hw3 (by simpa using hnb)
        have XX := X12.trans (x1.trans y1)
        have A' : RA g3 { a with defs := .mark h.next :: a.defs } { ca with defers := [{ target := .collected w.heap.size, args := #[] }] ++ ca.defers } := ⟨A.tm.mono XX.le, .mark _ _ _ _ _ _ hφD3 (A.df.mono XX.le)⟩
        refine ⟨pe, _, hend, ?_⟩
        cases pe with
        | none =>
          have hb' : RC.ok .normal { a with defs := .mark h.next :: a.defs } (h3.set (h.new .dfr).next (some (.loop .exhausted none tm ps' as bo))) = RC.ok e a' h' := by
            cases st <;> first | exact hb | cases hb
          cases hb'
          exact K g3 .normal _ _ XX y2 A' .normal
        | some cc =>
          have hb' : S.c false cc { a with defs := .mark h.next :: a.defs } (h3.set (h.new .dfr).next (some (.loop .exhausted (some cc) tm ps' as bo))) = RC.ok e a' h' := by
            cases st <;> first | exact hb | cases hb
          exact hS.c false _ _ _ _ _ _ hb' none rfl g3 _ _ A' y2 (hG.mono XX.le) Q fun g4 ce ca4 w4 z1 => K g4 ce ca4 w4 (XX.trans z1)
      · cases hb
  · cases hb

theorem stepC_ok (hN : NoOwn P) (hD : DrawSound P G D) (hS : Sound P G S) : CSound P G (stepC (tiOf P) G D S) := by
  intro rd c a h e a' h' hb r0 hr0 g ca w A R hG Q K
  unfold stepC at hb
  split at hb
  · cases hb; exact wpIn_skip (K g .normal ca w (.refl g _ w) R A .normal)
  · cases hb; exact wpIn_label (K g .normal ca w (.refl g _ w) R A .normal)
  · rename_i id ops d
    split at hb
    · refine wpIn_region ?_
      have := ops_ok hN hS.f hS.y hr0 ops Q ops.toList 0 (fun k => by simp) a h hb g ca w A R hG K
      rw [List.range_eq_range']
      simpa using this
    · exact hD S hS rd id ops a h e a' h' hb r0 hr0 g ca w A R hG Q K
  · rename_i x y
    refine wpIn_seq ?_
    split at hb
    · rename_i a1 h1 hx
      refine hS.c rd x a h _ _ _ hx r0 hr0 g ca w A R hG _ fun g1 ce ca1 w1 x1 x2 x3 x4 => ?_
      cases x4
      exact hS.c rd y a1 h1 _ _ _ hb r0 hr0 g1 ca1 w1 x3 x2 (hG.mono x1.le) Q fun g2 ce ca2 w2 y1 => K g2 ce ca2 w2 (x1.trans y1)
    · rename_i hne
      cases hx : S.c rd x a h with
      | fail => rw [hx] at hb; cases hb
      | ok e1 a1 h1 =>
        rw [hx] at hb; cases hb
        refine hS.c rd x a h _ _ _ hx r0 hr0 g ca w A R hG _ fun g1 ce ca1 w1 x1 x2 x3 x4 => ?_
        have hk := K g1 ce ca1 w1 x1 x2 x3 x4
        cases x4 with
        | normal => exact absurd hx (hne _ _)
        | _ => exact hk
  · rename_i c t el
    have hc := ev_ok hG A c
    split at hb
    · rename_i hcv
      rw [hcv] at hc
      generalize hq : ca.eval c = q at hc
      cases hc
      exact wpIn_cond_true hq (hS.c _ _ _ _ _ _ _ hb r0 hr0 g ca w A R hG Q K)
    · rename_i hcv
      rw [hcv] at hc
      generalize hq : ca.eval c = q at hc
      cases hc
      exact wpIn_cond_false hq (hS.c _ _ _ _ _ _ _ hb r0 hr0 g ca w A R hG Q K)
    · cases hb
  · rename_i id b
    refine wpIn_block ?_
    split at hb
    · rename_i i a1 h1 hx
      refine hS.c rd b a h _ _ _ hx r0 hr0 g ca w A R hG _ fun g1 ce ca1 w1 x1 x2 x3 x4 => ?_
      cases x4
      split at hb
      · rename_i hi
        cases hb
        have := (beq_iff _ _).1 hi
        simp only [Exit.inBlock, this, if_true]
        exact K g1 _ ca1 w1 x1 x2 x3 .normal
      · rename_i hi
        cases hb
        have hne : ¬ i = id := fun e => by rw [(beq_iff _ _).2 e] at hi; cases hi
        simp only [Exit.inBlock, hne, if_false]
        exact K g1 _ ca1 w1 x1 x2 x3 (.exit i)
    · rename_i hne
      cases hx : S.c rd b a h with
      | fail => rw [hx] at hb; cases hb
      | ok e1 a1 h1 =>
        rw [hx] at hb; cases hb
        refine hS.c rd b a h _ _ _ hx r0 hr0 g ca w A R hG _ fun g1 ce ca1 w1 x1 x2 x3 x4 => ?_
        have hk := K g1 ce ca1 w1 x1 x2 x3 x4
        cases x4 with
        | exit i => exact absurd hx (hne _ _ _)
        | _ => exact hk
  · obtain ⟨n, hn⟩ := hS.l _ _ _ _ _ _ _ hb r0 hr0
    exact wpIn_loop_rounds n (hn g ca w A R hG Q K)
  · cases hb; exact wpIn_exit (K g _ ca w (.refl g _ w) R A (.exit _))
  · cases hb; exact wpIn_goto (K g _ ca w (.refl g _ w) R A (.goto _))
  · cases hb; exact wpIn_ret (K g _ ca w (.refl g _ w) R A .ret)
  · exact wpIn_scope (hS.s _ _ _ _ _ _ _ _ hb r0 hr0 g ca w A R hG Q K)
  · rename_i f ps assign body
    split at hb
    · rename_i fid cap hroom hroom2 hf
      have hrn : r0 = none := by cases r0 with
        | none => rfl
        | some x => cases hr0
      subst hrn
      exact rangeFunc_ok hS hroom hroom2 hf hb hN g ca w A R hG Q K
    · cases hb
  · cases hb

theorem stepL_ok (hS : Sound P G S) : LSound P G (stepL S) := by
  intro rd c a h e a' h' hb r0 hr0
  unfold stepL at hb
  split at hb
  · rename_i a1 h1 hx
    obtain ⟨n, hn⟩ := hS.l _ _ _ _ _ _ _ hb r0 hr0
    refine ⟨n + 1, fun g ca w A R hG Q K => ?_⟩
    rw [roundsIn_succ]
    refine hS.c rd c a h _ _ _ hx r0 hr0 g ca w A R hG _ fun g1 ce ca1 w1 x1 x2 x3 x4 => ?_
    cases x4
    exact hn g1 ca1 w1 x3 x2 (hG.mono x1.le) Q fun g2 ce ca2 w2 y1 => K g2 ce ca2 w2 (x1.trans y1)
  · rename_i hne
    cases hx : S.c rd c a h with
    | fail => rw [hx] at hb; cases hb
    | ok e1 a1 h1 =>
      rw [hx] at hb; cases hb
      refine ⟨1, fun g ca w A R hG Q K => ?_⟩
      rw [roundsIn_succ]
      refine hS.c rd c a h _ _ _ hx r0 hr0 g ca w A R hG _ fun g1 ce ca1 w1 x1 x2 x3 x4 => ?_
      have hk := K g1 ce ca1 w1 x1 x2 x3 x4
      cases x4 with
      | normal => exact absurd hx (hne _ _)
      | _ => exact hk

theorem stepSc_ok (hS : Sound P G S) : SSound P G (stepSc S) := by
  intro rd c cur a h e a' h' hb r0 hr0 g ca w A R hG Q K
  unfold stepSc at hb
  refine scopeIn_of ?_
  split at hb
  · rename_i l a1 h1 hx
    split at hb
    · rename_i rest hf
      refine hS.c rd cur a h _ _ _ hx r0 hr0 g ca w A R hG _ fun g1 ce ca1 w1 x1 x2 x3 x4 => ?_
      cases x4
      exact ⟨rest, hf, hS.s _ _ _ _ _ _ _ _ hb r0 hr0 g1 ca1 w1 x3 x2 (hG.mono x1.le) Q fun g2 ce ca2 w2 y1 => K g2 ce ca2 w2 (x1.trans y1)⟩
    · cases hb
  · rename_i hne
    cases hx : S.c rd cur a h with
    | fail => rw [hx] at hb; cases hb
    | ok e1 a1 h1 =>
      rw [hx] at hb; cases hb
      refine hS.c rd cur a h _ _ _ hx r0 hr0 g ca w A R hG _ fun g1 ce ca1 w1 x1 x2 x3 x4 => ?_
      have hk := K g1 ce ca1 w1 x1 x2 x3 x4
      cases x4 with
      | goto l => exact absurd hx (hne _ _ _)
      | _ => exact hk

theorem stepK_ok {K : FuncId → List AV → H → RF} (hK : FSound P G K) {f : FuncId → List AV → H → RF} (hf : FSound P G f) : FSound P G (fun fid args h => match K fid args h with | .fail => f fid args h | r => r) := by
  intro fid args h r hb hn
  simp only at hb
  split at hb
  · exact hf _ _ _ _ hb hn
  · exact hK _ _ _ _ hb hn

theorem run_bind_ok' {α β : Type} {s : Sem α} {f : α → Sem β} {x : α} {w w1 : World} {r : Result β} (h1 : s.run P w = .ok x w1) (h2 : (f x).run P w1 = r) : (s >>= f).run P w = r := by
  rw [Sem.run_bind, h1]; exact h2
theorem run_map_ok' {α β : Type} {s : Sem α} {f : α → β} {x : α} {w w1 : World} (h1 : s.run P w = .ok x w1) : (f <$> s).run P w = .ok (f x) w1 := by
  rw [Sem.run_map, h1]; rfl
theorem res_ok {g : Gh} {h : H} {w : World} (R : RS g h w) {a : AcA} {ca : Act} (A : RA g a ca) : ∀ (rs : List ResultVar) {vs : List AV}, resA (tiOf P) h a.tmps rs = some vs →
    ∃ us, (rs.mapM (fun r => match r with | .tmp t => pure (ca.tmps.getD t undef) | .cell p t => do loadVar t (← asAddr (ca.tmps.getD p undef)) : ResultVar → Sem Value)).run P w = .ok us w ∧ RelL g vs us
  | [], vs, h => by cases h; exact ⟨[], by simp, .nil⟩
  | .tmp t :: r, vs, hb => by
    unfold resA at hb
    split at hb <;> cases hb
    rename_i l hl
    obtain ⟨us, h1, h2⟩ := res_ok R A r hl
    have ht := A.tm.at_ t
    refine ⟨ca.tmps.getD t undef :: us, ?_, .cons _ _ _ _ (by simpa using ht) h2⟩
    simp only [List.mapM_cons, Sem.run_bind, Sem.run_pure, Result.andThen_ok, h1]
  | .cell p t :: r, vs, hb => by
    unfold resA at hb
    split at hb
    · rename_i ti cs off l ht hc hl
      split at hb <;> cases hb
      rename_i v hv
      obtain ⟨us, h1, h2⟩ := res_ok R A r hl
      have hp := A.tm.at_ p
      obtain ⟨ad, hv', hs⟩ := cellsOf_spot (w := w) R hp hc
      obtain ⟨u, h3, h4⟩ := read_ok (P := P) ht hs hv
      have hv2 : ca.tmps.getD p undef = .pointer (some ad) := by simpa using hv'
      refine ⟨u :: us, ?_, .cons _ _ _ _ h4 h2⟩
      rw [List.mapM_cons]
      refine run_bind_ok' (x := u) (w := w) ?_ (run_bind_ok' (x := us) (w := w) h1 (Sem.run_pure ..))
      show ((do loadVar t (← asAddr (ca.tmps.getD p undef))) : Sem Value).run P w = _
      rw [hv2]
      exact run_bind_ok' (x := ad) (w := w) (Sem.run_pure ..) h3
    · cases hb

theorem finish_ok {g : Gh} {h : H} {w : World} (R : RS g h w) {a : AcA} {ca : Act} (A : RA g a ca) {fn : Func} {v : AV} {h' : H} (hb : finishF (tiOf P) fn a.tmps h = .ret v h') :
    h' = h ∧ ∃ u, (results fn ca.tmps).run P w = .ok u w ∧ Rel g v u := by
  unfold finishF at hb
  split at hb <;> cases hb
  rename_i vs hvs
  refine ⟨rfl, ?_⟩
  obtain ⟨us, h1, h2⟩ := res_ok (P := P) R A fn.results.toList hvs
  refine ⟨if h : us.length = 1 then us[0] else .tuple us.toArray, ?_, ?_⟩
  · unfold results
    rw [Array.mapM_eq_mapM_toList]
    refine run_bind_ok' (x := us.toArray) (w := w) ?_ (by first | rfl | simp)
    exact run_map_ok' h1
  · cases h2 with
    | nil => simpa [packR] using Rel.tup [] [] .nil
    | cons a u as us h t =>
      cases t with
      | nil => simpa [packR] using h
      | cons b v bs vs h' t' =>
        simp only [packR, List.length_cons]
        rw [dif_neg (by omega)]
        exact .tup _ _ (.cons _ _ _ _ h (.cons _ _ _ _ h' t'))

theorem fillE_n : ∀ (args : List AV) (e : Env) (i : Nat), (fillE e i args).n = e.n
  | [], _, _ => rfl
  | _ :: r, e, i => (fillE_n r _ _).trans (eset_n _ _ _)
theorem fillE_rel {g : Gh} : ∀ {args : List AV} {vals : List Value}, RelL g args vals → ∀ {e : Env} {l : List Value} (i : Nat), RelT g e l → RelT g (fillE e i args) ((vals.zipIdx i).foldl (fun l (p : Value × Nat) => l.set p.2 p.1) l)
  | _, _, .nil, e, l, i, h => h
  | _, _, .cons a v as vs hv hr, e, l, i, h => by
    simp only [fillE, List.zipIdx_cons, List.foldl_cons]
    exact fillE_rel hr (i + 1) (h.set hv i)
theorem sets_eq : ∀ (vals : List Value) (pre : List Value) (n : Nat), ((vals.zipIdx pre.length).foldl (fun l (p : Value × Nat) => l.set p.2 p.1) (pre ++ List.replicate (vals.length + n) Go.undef)) = pre ++ vals ++ List.replicate n Go.undef
  | [], pre, n => by simp
  | v :: vs, pre, n => by
    simp only [List.zipIdx_cons, List.foldl_cons, List.length_cons]
    have e1 : (pre ++ List.replicate (vs.length + 1 + n) Go.undef).set pre.length v = (pre ++ [v]) ++ List.replicate (vs.length + n) Go.undef := by
      rw [show vs.length + 1 + n = (vs.length + n) + 1 by omega, List.replicate_succ]
      simp
    rw [e1]
    have := sets_eq vs (pre ++ [v]) n
    simp only [List.length_append, List.length_singleton] at this
    rw [this]; simp
theorem nilE_rel (g : Gh) (n : Nat) (h : n ≤ 512) : RelT g (Env.nil n) (List.replicate n Go.undef) :=
  ⟨by simp [Env.nil], h, fun t => by
    rw [eget_nil]
    have : (List.replicate n Go.undef).getD t Go.undef = Go.undef := by
      by_cases ht : t < n <;> simp [List.getD_eq_getElem?_getD, ht]
    rw [this]; exact Rel.undef g⟩
theorem enter_rel {g : Gh} {args : List AV} {vals : List Value} (hr : RelL g args vals) (fn : Func) (hn : args.length + (fn.ntmps - args.length) ≤ 512) : RA g ⟨enterE fn.ntmps args, []⟩ { tmps := vals.toArray ++ Array.replicate (fn.ntmps - vals.toArray.size) undef, defers := [] } := by
  refine ⟨?_, .nil⟩
  have h1 := fillE_rel hr 0 (nilE_rel g _ hn)
  have h2 := sets_eq vals [] (fn.ntmps - args.length)
  rw [hr.length] at h1 h2
  simp only [List.length_nil, List.nil_append] at h2
  rw [h2] at h1
  unfold enterE
  rw [hr.length]
  simpa using h1

theorem stepF_ok (hS : Sound P G S) : FSound P G (stepF (tiOf P) (fun f => P.funcs[f]?) S) := by
  intro fid args h r hb hne g w vals hr R hG
  subst hb
  unfold stepF at hne ⊢
  simp only at hne ⊢
  cases hf : P.funcs[fid]? with
  | none => rw [hf] at hne; exact absurd rfl hne
  | some fn =>
    rw [hf] at hne
    simp only at hne ⊢
    cases hbd : fn.body with
    | none => rw [hbd] at hne; exact absurd rfl hne
    | some c =>
      rw [hbd] at hne
      simp only at hne ⊢
      refine ⟨⟨fn, rfl, by rw [hbd]; rfl⟩, ?_⟩
      cases hble : Nat.ble (args.length + (fn.ntmps - args.length)) 512 with
      | false => rw [hble] at hne; exact absurd rfl hne
      | true =>
      rw [hble] at hne
      simp only at hne ⊢
      have A := enter_rel hr fn (Nat.le_of_ble_eq_true hble)
      have fin : ∀ {a : AcA} {h1 : H} {r : RF}, r ≠ .fail → finishF (tiOf P) fn a.tmps h1 = r → ∀ g1 ca1 w1, Ext g h w g1 h1 w1 → RS g1 h1 w1 → RA g1 a ca1 → LeavesInM Fence.wide 0 P fn ca1.tmps (FPost g h w r) [] .returning w1 := by
        intro a h1 r hrne hr g1 ca1 w1 x1 x2 x3
        cases r with
        | fail => exact absurd rfl hrne
        | panic v h2 => unfold finishF at hr; split at hr <;> cases hr
        | ret v h2 =>
          obtain ⟨rfl, u, h3, h4⟩ := finish_ok (P := P) x2 x3 hr
          exact ⟨u, h3, g1, u, rfl, x1, x2, h4⟩
      have leave : ∀ {a : AcA} {h1 : H} {m : MA} {d : DefA} {ds : List DefA} {r : RF}, r ≠ .fail → leaveF (tiOf P) fn a.tmps (S.ds m (d :: ds) h1) = r → a.defs = d :: ds → ∀ g1 ca1 w1 u, ModeR g1 m u → Ext g h w g1 h1 w1 → RS g1 h1 w1 → RA g1 a ca1 → LeavesInM Fence.wide 0 P fn ca1.tmps (FPost g h w r) ca1.defers u w1 := by
        intro a h1 m d ds r hrne hr hd g1 ca1 w1 u M x1 x2 x3
        cases hds : S.ds m (d :: ds) h1 with
        | fail => rw [hds] at hr; exact absurd hr.symm hrne
        | ok m' h2 =>
          rw [hds] at hr
          have hdf := x3.df
          rw [hd] at hdf
          refine hS.ds _ _ _ _ _ hds g1 w1 _ u fn ca1.tmps _ hdf M x2 (hG.mono x1.le) fun g2 w2 u2 y1 y2 y3 => ?_
          cases y3 with
          | ret => exact fin (a := a) hrne hr g2 ca1 w2 (x1.trans y1) y2 (x3.mono y1.le)
          | pan v u hu =>
            subst hr
            exact ⟨g2, u, rfl, x1.trans y1, y2, hu⟩
          | done v => exact absurd hr.symm hrne
      have done : ∀ {a : AcA} {h1 : H} {r : RF}, r ≠ .fail → (match a.defs with | [] => finishF (tiOf P) fn a.tmps h1 | ds => leaveF (tiOf P) fn a.tmps (S.ds .ret ds h1)) = r →
          ∀ g1 ca1 w1, Ext g h w g1 h1 w1 → RS g1 h1 w1 → RA g1 a ca1 → LeavesInM Fence.wide 0 P fn ca1.tmps (FPost g h w r) ca1.defers .returning w1 := by
        intro a h1 r hrne hr g1 ca1 w1 x1 x2 x3
        cases hd : a.defs with
        | nil =>
          have hdf := x3.df
          rw [hd] at hdf hr
          generalize hq : ca1.defers = q at hdf
          cases hdf
          exact fin (a := a) hrne hr g1 ca1 w1 x1 x2 x3
        | cons d ds =>
          rw [hd] at hr
          exact leave hrne hr hd g1 ca1 w1 _ .ret x1 x2 x3
      refine callsIn_wide.1 (callsIn_of_wp_marks (n := 0) hf hbd trivial ?_)
      cases hc : S.c false c ⟨enterE fn.ntmps args, []⟩ h with
      | fail => rw [hc] at hne; exact absurd rfl hne
      | ok e a h1 =>
        rw [hc] at hne
        refine hS.c _ _ _ _ _ _ _ hc none rfl g _ w A R hG _ fun g1 ce ca1 w1 x1 x2 x3 x4 => ?_
        cases x4 with
        | normal => exact done (a := a) hne rfl g1 ca1 w1 x1 x2 x3
        | ret => exact done (a := a) hne rfl g1 ca1 w1 x1 x2 x3
        | exit id => exact absurd rfl hne
        | goto l => exact absurd rfl hne
        | panic v u hu =>
          simp only at hne ⊢
          cases hd : a.defs with
          | cons d r =>
            rw [hd] at hne
            exact leave hne rfl hd g1 ca1 w1 _ (.pan v u hu) x1 x2 x3
          | nil =>
            have hdf := x3.df
            rw [hd] at hdf
            show LeavesInM Fence.wide 0 P fn ca1.tmps _ ca1.defers (.panicking _) w1
            generalize hq : ca1.defers = q at hdf
            cases hdf
            exact ⟨g1, u, rfl, x1, x2, hu⟩

theorem stepFd_ok (hS : Sound P G S) : FdSound P G (stepFd (tiOf P) (fun f => P.funcs[f]?) G S) := by
  intro m fid args h m' h' hb g w vals u hr M R hG
  unfold stepFd at hb
  simp only at hb
  cases hf : P.funcs[fid]? with
  | none => rw [hf] at hb; cases hb
  | some fn =>
    rw [hf] at hb
    simp only at hb
    cases hbd : fn.body with
    | none => rw [hbd] at hb; cases hb
    | some c =>
      rw [hbd] at hb
      simp only at hb
      refine ⟨⟨fn, rfl, by rw [hbd]; rfl⟩, ?_⟩
      cases hble : Nat.ble (args.length + (fn.ntmps - args.length)) 512 with
      | false => rw [hble] at hb; cases hb
      | true =>
      rw [hble] at hb
      simp only at hb
      have A := enter_rel hr fn (Nat.le_of_ble_eq_true hble)
      refine callsDIn_of_wpSIn hf hbd trivial fun c0 cs hc0 => ?_
      cases hc : recC (tiOf P) G S.c c ⟨enterE fn.ntmps args, []⟩ h m with
      | fail => rw [hc] at hb; cases hb
      | ok e a h1 m1 =>
        rw [hc] at hb
        have done : ∀ {e : ExA}, (match a.defs, finishF (tiOf P) fn a.tmps h1 with | [], .ret _ h => RD.ok m1 h | _, _ => .fail) = .ok m' h' → ∀ g1 ca1 w1, Ext g h w g1 h1 w1 → RS g1 h1 w1 → RA g1 a ca1 → ca1.defers = [] ∧ m1 = m' ∧ h1 = h' ∧ ∃ v', (results fn ca1.tmps).run P w1 = .ok v' w1 := by
          intro _ hd g1 ca1 w1 x1 x2 x3
          split at hd
          · rename_i v0 h2 hnil hfin
            have hdd := x3.df
            rw [hnil] at hdd
            obtain ⟨rfl, u, h4, h5⟩ := finish_ok (P := P) x2 x3 hfin
            cases hd
            refine ⟨?_, rfl, rfl, u, h4⟩
            generalize ca1.defers = q at hdd
            cases hdd; rfl
          · cases hd
        refine recC_ok hS.c c _ h m hc g c0 _ w (hc0 ▸ M) A R hG _ fun g1 ce ca1 w1 u1 x1 x2 x3 x4 x5 => ?_
        cases x4 with
        | normal => obtain ⟨d1, rfl, rfl, v1, d2⟩ := done (e := .normal) hb g1 ca1 w1 x1 x2 x3; exact ⟨d1, u1, rfl, v1, d2, v1, g1, rfl, x5, x1, x2⟩
        | ret => obtain ⟨d1, rfl, rfl, v1, d2⟩ := done (e := .ret) hb g1 ca1 w1 x1 x2 x3; exact ⟨d1, u1, rfl, v1, d2, v1, g1, rfl, x5, x1, x2⟩
        | exit id => cases hb
        | goto l => cases hb
        | panic v u hu => cases hb

theorem settle_ok {g : Gh} {m : MA} {u : FrameMode} (h : ModeR g m u) : ModeR g m.settle (settle u) := by
  cases h with
  | ret => exact .ret
  | pan a v h => exact .pan a v h
  | done v => exact .ret

theorem stepDs_ok (hN : NoOwn P) (hS : Sound P G S) : DSound P G (stepDs S) := by
  intro ds m h m' h' hb g w es u fn tmps Rr hd M R hG K
  unfold stepDs at hb
  split at hb
  · cases hb
    cases hd
    exact K g w u (.refl g _ w) R M
  · rename_i f cap args r
    split at hb
    · rename_i m1 h1 hcall
      cases hd with
      | cons fn' _ _ c a _ es hc ha t =>
        obtain ⟨⟨fnn, hff, hbody⟩, hC⟩ := hS.fd _ _ _ _ _ _ hcall g w (a ++ c) u (hc.append ha) M R hG
        refine ⟨M.ne_run, .inr ⟨fun h => (by cases h), .func f, c.toArray, f, (a ++ c).toArray, rfl, ?_, fun _ _ => trivial, ?_⟩⟩
        · have e : a.toArray ++ c.toArray = (a ++ c).toArray := by apply Array.ext'; simp
          unfold invoke
          simp only [e]
          exact run_call hN hff hbody _ w
        · refine callsD_mono hC fun e u' w' hh => ?_
          obtain ⟨v, g1, rfl, x0, x1, x2⟩ := hh
          exact hS.ds _ _ _ _ _ hb g1 w' es (settle u') fn tmps Rr (t.mono x1.le) (settle_ok x0) x2 (hG.mono x1.le) fun g2 w2 u2 y1 => K g2 w2 u2 (x1.trans y1)
    · cases hb
  · rename_i id r
    split at hb
    · rename_i hid
      cases hd with
      | mark _ b o c _ es hφ t =>
        have hw := R.obj _ _ _ _ _ hid hφ
        have hlt : b < w.heap.size := (Array.getElem?_eq_some_iff.1 hw).1
        have hsm := R.small id (by rw [hid]; simp)
        refine ⟨M.ne_run, .inl ⟨b, _, rfl, run_takeDeferred hw, ?_⟩⟩
        have R' : RS g (h.set id none) (w.putObj b (.deferred none)) := by
          have R1 := R.kill id hsm
          refine R1.of_other (b := b) (fun b' _ hne => heap_put hne) (fun ⟨j, ao, o', c', h1, h2⟩ => ?_) ?_
          by_cases hj : j = id
          · subst hj; rw [H.get_set_same h j _ hsm] at h1; cases h1
          · rw [H.get_set_other h id j _ (Ne.symm hj)] at h1
            exact hj (R.disj j id ao .dfr b o' c' o c h1 hid h2 hφ)
          · exact fun i v hI => (R.imm b i v hI).2 ⟨id, .dfr, o, c, hid, hφ⟩
        have X' : Ext g h w g (h.set id none) (w.putObj b (.deferred none)) :=
          ⟨.refl g, fun _ _ => rfl, Nat.le_refl _, fun b' hb hn => heap_put fun e => hn ⟨id, .dfr, o, c, hid, e ▸ hφ⟩, fun b' _ ⟨j, a, o', c', h1, h2⟩ => by
            by_cases hj : j = id
            · subst hj; rw [H.get_set_same h j _ hsm] at h1; cases h1
            · rw [H.get_set_other h id j _ (Ne.symm hj)] at h1; exact ⟨j, a, o', c', h1, h2⟩, by rw [size_put]; exact Nat.le_refl _, rfl, rfl, rfl⟩
        exact hS.ds _ _ _ _ _ hb g _ es u fn tmps Rr t M R' hG fun g2 w2 u2 y1 => K g2 w2 u2 (X'.trans y1)
    · cases hb
  · cases hb

theorem lsets_rel {g : Gh} : ∀ (ts : List Tmp) {tm : Env} {tmps : Array Value} {as : List AV} {vs : List Value}, RelT g tm tmps.toList → RelL g as vs → RelT g (lsets tm ts as) (((ts.zip vs).foldl (fun (t : Array Value) (p : Tmp × Value) => t.setIfInBounds p.1 p.2) tmps).toList)
  | [], tm, tmps, as, vs, h, _ => by cases as <;> simpa [lsets] using h
  | t :: ts, tm, tmps, _, _, h, .nil => by simpa [lsets] using h
  | t :: ts, tm, tmps, _, _, h, .cons a v as vs hv hr => by
    simp only [lsets, List.zip_cons_cons, List.foldl_cons]
    refine lsets_rel ts ?_ hr
    have := h.set hv t
    simpa using this

theorem stepY_ok (hS : Sound P G S) : YSound P G (stepY S) := by
  intro id args h v h' hb g w vals b o c hφ hr R hG
  unfold stepY at hb
  split at hb
  · rename_i st pe tm ps as bo hid
    split at hb
    · rename_i hlen
      obtain ⟨fn, tmps, d, hw, htm⟩ := R.obj _ _ _ _ _ hid hφ
      have hl := (beq_iff _ _).1 hlen
      refine ⟨fn, _, as, bo, run_yield hw (by simp; rw [← hl, hr.length]), ?_⟩
      split at hb
      · rename_i a1 h1 hc1
        refine roundIn_of_wpIn trivial ?_
        have A0 : RA g ⟨lsets tm ps.toList args, []⟩ { tmps := (ps.zip vals.toArray).foldl (fun t (p : Tmp × Value) => t.setIfInBounds p.1 p.2) tmps, defers := [] } := by
          refine ⟨?_, .nil⟩
          have := lsets_rel ps.toList (g := g) htm hr
          rw [← Array.foldl_toList]
          simpa using this
        refine hS.c true as _ h _ _ _ hc1 (some b) rfl g _ w A0 R hG _ fun g1 ce ca1 w1 x1 x2 x3 x4 => ?_
        cases x4
        have hφ1 := x1.le.φ _ _ hφ
        split at hb
        · rename_i pe1 tm1 ps1 as1 bo1 hid1
          obtain ⟨fn1, tmps1, d1, hw1, _, y1, y2⟩ := loop_put (st' := .busy) (pe' := pe1) x2 hid1 hφ1
          refine ⟨_, run_beginRound hw1 rfl, ?_⟩
          split at hb
          · rename_i e a2 h2 hc2
            refine hS.c true bo _ _ _ _ _ hc2 (some b) rfl g1 _ _ x3 y2 (hG.mono x1.le) _ fun g2 ce2 ca2 w2 z1 z2 z3 z4 => ?_
            have hφ2 := z1.le.φ _ _ hφ1
            have XX := x1.trans (y1.trans z1)
            unfold endY at hb
            split at hb
            · rename_i st2 pe2 tm2 ps2 as2 bo2 hid2
              cases z4 with
              | normal =>
                cases hb
                obtain ⟨fn2, tmps2, d2, hw2, _, u1, u2⟩ := loop_put (st' := .ready) (pe' := none) z2 hid2 hφ2
                exact ⟨_, _, run_endRound none hw2, g2, _, rfl, XX.trans u1, u2, .bool true⟩
              | ret =>
                cases hb
                obtain ⟨fn2, tmps2, d2, hw2, _, u1, u2⟩ := loop_put (st' := .done) (pe' := some .ret) z2 hid2 hφ2
                exact ⟨_, _, run_endRound (some .ret) hw2, g2, _, rfl, XX.trans u1, u2, .bool false⟩
              | exit i =>
                cases hb
                obtain ⟨fn2, tmps2, d2, hw2, _, u1, u2⟩ := loop_put (st' := .done) (pe' := some (.exit i)) z2 hid2 hφ2
                exact ⟨_, _, run_endRound (some (.exit i)) hw2, g2, _, rfl, XX.trans u1, u2, .bool false⟩
              | goto i =>
                cases hb
                obtain ⟨fn2, tmps2, d2, hw2, _, u1, u2⟩ := loop_put (st' := .done) (pe' := some (.goto i)) z2 hid2 hφ2
                exact ⟨_, _, run_endRound (some (.goto i)) hw2, g2, _, rfl, XX.trans u1, u2, .bool false⟩
              | panic v u hu => cases hb
            · cases hb
          · cases hb
        · cases hb
      · cases hb
    · cases hb
  · cases hb

theorem self_ok {K : FuncId → List AV → H → RF} (hN : NoOwn P) (hD : DrawSound P G D) (hK : FSound P G K) : ∀ n, Sound P G (self K (tiOf P) (fun f => P.funcs[f]?) G D n)
  | 0 => by
    refine Sound.mk ?_ ?_ ?_ ?_ ?_ ?_ ?_
    · intro rd c a h e a' h' hb; cases hb
    · intro rd c a h e a' h' hb; cases hb
    · intro rd c cur a h e a' h' hb; cases hb
    · intro id args h v h' hb; cases hb
    · intro fid args h r hb hn; exact absurd hb.symm hn
    · intro m fid args h m' h' hb; cases hb
    · intro ds m h m' h' hb; cases hb
  | n + 1 => have hS := self_ok hN hD hK n
    Sound.mk (stepC_ok hN hD hS) (stepL_ok hS) (stepSc_ok hS) (stepY_ok hS) (stepK_ok hK (stepF_ok hS)) (stepFd_ok hS) (stepDs_ok hN hS)
end

end
end Go.Ab
/-! Objects that are made later than they were asked for. -/
namespace Go.Ab
open Go
noncomputable section

theorem RS.newU {g : Gh} {h : H} {w : World} (R : RS g h w) {ao : AO} (hr : h.room = true) : RS g (h.new ao) w := by
  have hf := R.fresh h.next (Nat.le_refl _)
  have hroom : h.next + 1 ≤ 2 ^ 15 := Nat.le_of_ble_eq_true hr
  have old : ∀ j a x, g.φ j = some x → (h.new ao).get j = some a → h.get j = some a := fun j a x hx hg => by
    have hj : j ≠ h.next := fun e => by rw [e, hf.1] at hx; cases hx
    rw [H.get_new_other h j _ (Ne.symm hj)] at hg; exact hg
  refine ⟨fun j a b o c h1 h2 => R.obj j a b o c (old j a _ h2 h1) h2, fun j j' a a' b o c o' c' h1 h2 h3 h4 => R.disj j j' a a' b o c o' c' (old _ _ _ h3 h1) (old _ _ _ h4 h2) h3 h4,
    fun b i v hI => ⟨(R.imm b i v hI).1, fun ⟨j, a, o, c, h1, h2⟩ => (R.imm b i v hI).2 ⟨j, a, o, c, old _ _ _ h2 h1, h2⟩⟩, fun j hj => ?_, fun j hj => ?_⟩
  · have hj' : h.next + 1 ≤ j := hj
    exact ⟨(R.fresh j (by omega)).1, (H.get_new_other h j _ (by omega)).trans (R.fresh j (by omega)).2⟩
  · by_cases e : j = h.next
    · omega
    · rw [H.get_new_other h j _ (Ne.symm e)] at hj; exact R.small j hj
theorem Ext.newU {g : Gh} {h : H} {w : World} (R : RS g h w) {ao : AO} : Ext g h w g (h.new ao) w :=
  ⟨.refl g, fun _ _ => rfl, Nat.le_succ _, fun _ _ _ => rfl, fun b _ ⟨j, a, o, c, h1, h2⟩ => ⟨j, a, o, c, by
    have hj : j ≠ h.next := fun e => by rw [e, (R.fresh h.next (Nat.le_refl _)).1] at h2; cases h2
    rw [H.get_new_other h j _ (Ne.symm hj)] at h1; exact h1, h2⟩, Nat.le_refl _, rfl, rfl, rfl⟩

theorem RS.real {g : Gh} {h : H} {w w' : World} (R : RS g h w) {id c : Nat} {ao : AO} (hid : h.get id = some ao) (hφ : g.φ id = none)
    (hfr : ∀ b', b' < w.heap.size → w'.heap[b']? = w.heap[b']?) (hc : ObjAt (g.add id (w.heap.size, 0, c)) w' w.heap.size 0 c ao) : RS (g.add id (w.heap.size, 0, c)) h w' := by
  have hle : g.le (g.add id (w.heap.size, 0, c)) := Gh.le_add hφ
  have hnew : (g.add id (w.heap.size, 0, c)).φ id = some (w.heap.size, 0, c) := by simp [Gh.add]
  have hold : ∀ j, j ≠ id → (g.add id (w.heap.size, 0, c)).φ j = g.φ j := fun j hj => by simp [Gh.add, hj]
  have hno : ¬ own g h w.heap.size := fun ho => Nat.lt_irrefl _ (R.own_lt ho)
  refine ⟨fun j a b' o' c' hg h1 => ?_, fun j j' a a' b1 o1 c1 o2 c2 h1 h2 h3 h4 => ?_, fun b' i v hIv => ?_, fun j hj => ?_, R.small⟩
  · by_cases hj : j = id
    · subst hj; rw [hid] at hg; cases hg; rw [hnew] at h1; cases h1; exact hc
    · rw [hold j hj] at h1
      have h2 := R.obj j a _ _ _ hg h1
      exact h2.mono hle (hfr b' h2.lt)
  · by_cases hj : j = id <;> by_cases hj' : j' = id
    · rw [hj, hj']
    · rw [hj, hnew] at h3; cases h3
      rw [hold j' hj'] at h4; exact absurd ⟨j', a', _, _, h2, h4⟩ hno
    · rw [hj', hnew] at h4; cases h4
      rw [hold j hj] at h3; exact absurd ⟨j, a, _, _, h1, h3⟩ hno
    · rw [hold j hj] at h3; rw [hold j' hj'] at h4
      exact R.disj j j' a a' _ _ _ _ _ h1 h2 h3 h4
  · obtain ⟨h1, h2⟩ := R.imm b' i v hIv
    have hlt := lt_of_cell? h1
    refine ⟨(cell?_of_heap i (hfr b' hlt)).trans h1, fun ⟨j, a, o', c', h3, h4⟩ => ?_⟩
    by_cases hj : j = id
    · rw [hj, hnew] at h4; cases h4; exact absurd hlt (Nat.lt_irrefl _)
    · rw [hold j hj] at h4; exact h2 ⟨j, a, o', c', h3, h4⟩
  · have hne : j ≠ id := fun e => by have := (R.fresh j hj).2; rw [e, hid] at this; cases this
    exact ⟨(hold j hne).trans (R.fresh j hj).1, (R.fresh j hj).2⟩

/-- A late object is made. -/
def LOk (P : Program) (s : Sem Value) (g : Gh) (h : H) (w : World) (id : Nat) (x : AV) : Prop :=
  ∃ v w' c, s.run P w = .ok v w' ∧ RS (g.add id (w.heap.size, 0, c)) h w' ∧ Rel (g.add id (w.heap.size, 0, c)) x v ∧ w.heap.size < w'.heap.size ∧
    (∀ b', b' < w.heap.size → w'.heap[b']? = w.heap[b']?) ∧ w'.os = w.os ∧ w'.tape = w.tape ∧ w'.output = w.output

/-- ... and a moment has passed. -/
theorem Ext.real {g0 g : Gh} {h0 h : H} {w0 w w' : World} (X : Ext g0 h0 w0 g h w) {id c : Nat} (hφ : g.φ id = none) (hlo : h0.next ≤ id) (hs : w.heap.size < w'.heap.size)
    (hfr : ∀ b', b' < w.heap.size → w'.heap[b']? = w.heap[b']?) (h1 : w'.os = w.os) (h2 : w'.tape = w.tape) (h3 : w'.output = w.output) : Ext g0 h0 w0 (g.add id (w.heap.size, 0, c)) h w' :=
  ⟨X.le.trans (Gh.le_add hφ), fun j hj => by simp only [Gh.add]; rw [if_neg (by omega)]; exact X.old j hj, X.next, fun b hb hn => (hfr b (Nat.lt_of_lt_of_le hb X.size)).trans (X.fr b hb hn), fun b hb ⟨j, a, o, c', h4, h5⟩ => by
    by_cases hj : j = id
    · rw [hj] at h5; simp only [Gh.add, if_true] at h5; cases h5; exact absurd hb (by have := X.size; omega)
    · exact X.own b hb ⟨j, a, o, c', h4, by simpa [Gh.add, hj] using h5⟩, by have := X.size; omega, h1.trans X.os, h2.trans X.tape, h3.trans X.output⟩

theorem late_ok {g : Gh} {h : H} {w : World} (R : RS g h w) {cs : List AV} {vs : List Value} (T : TypeId) (hr : RelL g cs vs) (hs : ∀ x ∈ cs, x.sc = true) {id : Nat} (hid : h.get id = some (.cells cs)) (hφ : g.φ id = none) :
    RS (g.add id (w.heap.size, 0, vs.length)) h (w.alloc (.cells vs.toArray T)) ∧ w.heap.size < (w.alloc (.cells vs.toArray T)).heap.size ∧ (∀ b', b' < w.heap.size → (w.alloc (.cells vs.toArray T)).heap[b']? = w.heap[b']?) := by
  have hfr : ∀ b', b' < w.heap.size → (w.alloc (.cells vs.toArray T)).heap[b']? = w.heap[b']? := fun b' hb => Go.RowKit.Below.heap_alloc w _ b' hb
  refine ⟨R.real hid hφ hfr ⟨hs, vs.toArray, T, 0, 0, vs, by show ((w.heap.push _)[w.heap.size]?) = _; simp, by simp, .inl rfl, hr.mono (Gh.le_add hφ), by omega, fun i hi => by simp⟩, by simp, hfr⟩

def boxO (v : AV) : Option ((Nat → AV) × AO) :=
  match allSc v.cells with | true => some (fun id => .ptr id 0, .cells v.cells) | false => none
theorem boxL {P : Program} {g : Gh} {h : H} {w : World} (R : RS g h w) (t : TypeId) {x : AV} {v : Value} (hr : Rel g x v) {y : Nat → AV} {ao : AO} (hb : boxO x = some (y, ao)) {id : Nat} (hid : h.get id = some ao) (hφ : g.φ id = none) :
    LOk P (do pure (.pointer (some (← newVar t v)))) g h w id (y id) := by
  unfold boxO at hb
  split at hb <;> cases hb
  rename_i h2
  have hsc := allSc_iff h2
  obtain ⟨e1, e2, e3⟩ := late_ok R t (rel_cells hr hsc) hsc hid hφ
  refine ⟨.pointer (some ⟨w.heap.size, 0, none⟩), _, _, ?_, e1, ?_, e2, e3, rfl, rfl, rfl⟩
  · simp [newVar, newRow]
  · have := Rel.ptr (g := g.add id (w.heap.size, 0, v.cells.toList.length)) id 0 w.heap.size 0 v.cells.toList.length (by simp [Gh.add])
    simpa using this

theorem rowL {P : Program} {g : Gh} {h : H} {w : World} (R : RS g h w) (T : TypeId) {cs : List AV} {vs : List Value} (hr : RelL g cs vs) (hs : ∀ x ∈ cs, x.sc = true) (E len : Nat) {id : Nat} (hid : h.get id = some (.cells cs)) (hφ : g.φ id = none) :
    LOk P (do pure (.slice (some (← newRow T vs.toArray)) len len)) g h w id (.sl E id 0 len (some len)) := by
  obtain ⟨e1, e2, e3⟩ := late_ok R T hr hs hid hφ
  refine ⟨.slice (some ⟨w.heap.size, 0, none⟩) len len, _, _, ?_, e1, ?_, e2, e3, rfl, rfl, rfl⟩
  · simp [newRow]
  · exact .sl E _ 0 len (some len) w.heap.size 0 vs.length len _ _ (by simp [Gh.add]) rfl (Nat.le_refl _) (.inr ⟨rfl, rfl⟩)

def buildSliceO (T : TypeId → Option TI) (ti : TI) (len : Nat) (ps : List (Nat × AV)) : Option ((Nat → AV) × AO) :=
  match ti.d with
  | .slice elem => (match T elem with
    | none => none
    | some el => match el.zero with
      | none => none
      | some z => match allSc z.cells, Nat.beq z.cells.length el.size, Nat.ble (len * el.size) (2 ^ 24) with
        | true, true, true => (match fillA (fun i => some (i * el.size, el.size)) (repA len z.cells) ps with
          | some cs => some (fun id => .sl el.size id 0 len (some len), .cells cs)
          | none => none)
        | _, _, _ => none)
  | _ => none

theorem buildSliceL {P : Program} {g : Gh} {h : H} {w : World} (R : RS g h w) {t : TypeId} {ti : TI} (ht : tiOf P t = some ti) {len : Nat} {ps : List (Nat × AV)} {qs : List (Nat × Value)} (h1 : ps.map (·.1) = qs.map (·.1))
    (h2 : RelL g (ps.map (·.2)) (qs.map (·.2))) {y : Nat → AV} {ao : AO} (hb : buildSliceO (tiOf P) ti len ps = some (y, ao)) {id : Nat} (hid : h.get id = some ao) (hφ : g.φ id = none) : LOk P (Instr.buildSlice t len qs.toArray) g h w id (y id) := by
  unfold buildSliceO at hb
  split at hb
  · rename_i elem hd
    split at hb
    · cases hb
    · rename_i el hel
      split at hb
      · cases hb
      · rename_i z hz
        split at hb
        · rename_i hsc hlen hble
          split at hb <;> cases hb
          rename_i cs hcs
          have hsc' := allSc_iff hsc
          obtain ⟨zv, hrun, hzr⟩ := run_zero hel w hz g
          have hzc := rel_cells hzr hsc'
          have hzl := hzc.length
          have hlen' := (beq_iff _ _).1 hlen
          have hzsz : zv.cells.size = el.size := by rw [← hlen', hzl]; simp
          obtain ⟨us, e1, e2, e3, _⟩ := fill_ok _ ps qs _ _ h1 h2 (repA_rel hzc len) (repA_sc hsc' len) hcs
          have hbig : ¬ len * el.size > 2 ^ 24 := by have := (ble_iff _ _).1 hble; omega
          have hgen : ∀ (zz : Array Value), (if len * el.size = 0 then (pure #[] : Sem (Array Value)) else do pure (← zeroValue elem).cells).run P w = .ok zz w →
              ((Array.range (len * el.size)).map (fun i => zz[i % zz.size]!)) = (repA len zv.cells.toList).toArray := by
            intro zz hzz
            by_cases h0 : len * el.size = 0
            · have : (repA len zv.cells.toList) = [] := by
                apply List.eq_nil_of_length_eq_zero
                rw [repA_length]; simpa [hzsz] using h0
              rw [this, h0]; simp
            · simp only [h0, if_false, Sem.run_bind, hrun, Result.andThen_ok, Sem.run_pure, Result.ok.injEq, and_true] at hzz
              subst hzz
              rw [← hzsz, rep_eq]
          have := rowL (P := P) R elem e2 e3 el.size len hid hφ
          obtain ⟨v, w', c, hrow, hrest⟩ := this
          refine ⟨v, w', c, ?_, hrest⟩
          unfold Instr.buildSlice
          simp only [Sem.run_bind, run_und ht, hd, Result.andThen_ok, run_size hel, hbig, if_false]
          by_cases h0 : len * el.size = 0
          · have hg := hgen #[] (by simp [h0])
            simp only [h0, if_true, Sem.run_bind, Sem.run_pure, Result.andThen_ok] at hg ⊢
            simp only [hg, e1]
            exact hrow
          · have hg := hgen zv.cells (by simp only [h0, if_false, Sem.run_bind, hrun, Result.andThen_ok, Sem.run_pure])
            simp only [h0, if_false, Sem.run_bind, hrun, Sem.run_pure, Result.andThen_ok]
            simp only [hg, e1]
            exact hrow
        · cases hb
  · cases hb

def makeSliceO (T : TypeId → Option TI) (ti : TI) (l c : AV) : Option ((Nat → AV) × AO) :=
  match ti.d, natA l, natA c with
  | .slice elem, some l, some c => (match T elem with
    | none => none
    | some el => match el.zero with
      | none => none
      | some z => match allSc z.cells, Nat.beq z.cells.length el.size, Nat.ble l c, Nat.ble (el.bytes * c) (2 ^ 47), Nat.ble c (2 ^ 47) with
        | true, true, true, true, true => some (fun id => .sl el.size id 0 l (some c), .cells (repA c z.cells))
        | _, _, _, _, _ => none)
  | _, _, _ => none

theorem makeSliceL {P : Program} {g : Gh} {h : H} {w : World} (R : RS g h w) {t : TypeId} {ti : TI} (ht : tiOf P t = some ti) {l c : AV} {u v : Value} (hl : Rel g l u) (hc : Rel g c v)
    {y : Nat → AV} {ao : AO} (hb : makeSliceO (tiOf P) ti l c = some (y, ao)) {id : Nat} (hid : h.get id = some ao) (hφ : g.φ id = none) : LOk P (Instr.makeSlice t u v) g h w id (y id) := by
  unfold makeSliceO at hb
  split at hb
  · rename_i elem l' c' hd hl' hc'
    split at hb
    · cases hb
    · rename_i el hel
      split at hb
      · cases hb
      · rename_i z hz
        split at hb
        · rename_i hsc hlen hble hbytes hcap
          cases hb
          obtain ⟨k1, rfl⟩ := natA_rel hl hl'
          obtain ⟨k2, rfl⟩ := natA_rel hc hc'
          have hsc' := allSc_iff hsc
          obtain ⟨zv, hrun, hzr⟩ := run_zero hel w hz g
          have hzc := rel_cells hzr hsc'
          have hzl := hzc.length
          have hlen' := (beq_iff _ _).1 hlen
          have hzsz : zv.cells.size = el.size := by rw [← hlen', hzl]; simp
          have hble' := (ble_iff _ _).1 hble
          have hbytes' := (ble_iff _ _).1 hbytes
          have hcap' := (ble_iff _ _).1 hcap
          obtain ⟨i, hi1, hi2, hi3, hi4⟩ := run_ti hel w
          have w1 := wrap_nat l' (by omega)
          have w2 := wrap_nat c' hcap'
          have hb1 : ¬ ((el.bytes : Int) * c' > 2 ^ 48) := by
            have : (el.bytes : Int) * c' = ((el.bytes * c' : Nat) : Int) := by simp
            omega
          have hgen : ∀ (zz : Array Value), (if c' * el.size = 0 then (pure #[] : Sem (Array Value)) else do pure (← zeroValue elem).cells).run P w = .ok zz w →
              ((Array.range (c' * el.size)).map (fun i => zz[i % zz.size]!)) = (repA c' zv.cells.toList).toArray := by
            intro zz hzz
            by_cases h0 : c' * el.size = 0
            · have : (repA c' zv.cells.toList) = [] := by
                apply List.eq_nil_of_length_eq_zero
                rw [repA_length]; simpa [hzsz] using h0
              rw [this, h0]; simp
            · simp only [h0, if_false, Sem.run_bind, hrun, Result.andThen_ok, Sem.run_pure, Result.ok.injEq, and_true] at hzz
              subst hzz
              rw [← hzsz, rep_eq]
          obtain ⟨e1, e2, e3⟩ := late_ok R elem (repA_rel hzc c') (repA_sc hsc' c') hid hφ
          refine ⟨.slice (some ⟨w.heap.size, 0, none⟩) l' c', _, _, ?_, e1, .sl el.size _ 0 l' (some c') w.heap.size 0 _ c' _ _ (by simp [Gh.add]; rfl) rfl hble' (.inr ⟨rfl, rfl⟩), e2, e3, rfl, rfl, rfl⟩
          unfold Instr.makeSlice
          have t1 : ((decide ((c' : Int) < 0) || decide ((i.bytes : Int) * (c' : Int) > 2 ^ 48)) || decide ((l' : Int) < 0) || decide ((l' : Int) > (c' : Int))) = false := by
            rw [← hi3]; simp only [Bool.or_eq_false_iff, decide_eq_false_iff_not]; omega
          simp only [Sem.run_bind, run_und ht, hd, Result.andThen_ok, asInt, asIntOf, Sem.run_pure, hi2, w1, w2, t1, Bool.false_eq_true, if_false, run_askRoom, Int.toNat_natCast, run_size hel, newRow]
          by_cases h0 : c' * el.size = 0
          · have hg := hgen #[] (by simp [h0])
            simp only [h0, if_true, Sem.run_bind, Sem.run_pure, Result.andThen_ok] at hg ⊢
            simp only [hg, run_newObj, World.alloc_eq, Result.andThen_ok]
          · have hg := hgen zv.cells (by simp only [h0, if_false, Sem.run_bind, hrun, Result.andThen_ok, Sem.run_pure])
            simp only [h0, if_false, Sem.run_bind, hrun, Sem.run_pure, Result.andThen_ok]
            simp only [hg, run_newObj, World.alloc_eq, Result.andThen_ok]
        · cases hb
  · cases hb

def makeMapO (T : TypeId → Option TI) (t : TypeId) (r : Option AV) : Option ((Nat → AV) × AO) :=
  match r with
  | none => some (fun id => .map id, .map [])
  | some n => (match T t, natA n with
    | some ti, some _ => (match ti.d with | .map _ _ => some (fun id => .map id, .map []) | _ => none)
    | _, _ => none)
theorem makeMapL {P : Program} {g : Gh} {h : H} {w : World} (R : RS g h w) {t : TypeId} {r : Option AV} {u : Option Value} (hr : RelO g r u) {y : Nat → AV} {ao : AO} (hb : makeMapO (tiOf P) t r = some (y, ao)) {id : Nat} (hid : h.get id = some ao) (hφ : g.φ id = none) :
    LOk P (Instr.makeMap t u) g h w id (y id) := by
  have fin : h.get id = some (.map []) → (Instr.makeMap t u).run P w = .ok (.map (some w.heap.size)) (w.alloc (.map #[] 0)) → LOk P (Instr.makeMap t u) g h w id (.map id) := fun hid hrun => by
    have hfr : ∀ b', b' < w.heap.size → (w.alloc (.map #[] 0)).heap[b']? = w.heap[b']? := fun b' hb => Go.RowKit.Below.heap_alloc w _ b' hb
    refine ⟨_, _, 0, hrun, R.real hid hφ hfr ⟨[], .inl rfl, #[], 0, by show ((w.heap.push _)[w.heap.size]?) = _; simp, .nil, .nil, St.nil _⟩, .map _ _ 0 0 (by simp [Gh.add]), by simp, hfr, rfl, rfl, rfl⟩
  unfold makeMapO at hb
  split at hb
  · cases hb; cases hr
    exact fin hid (by simp [Instr.makeMap])
  · rename_i n
    split at hb
    · rename_i ti m ht hm
      split at hb <;> cases hb
      rename_i hd
      cases hr with
      | some _ v hr =>
        obtain ⟨k, rfl⟩ := natA_rel hr hm
        exact fin hid (by simp [Instr.makeMap, run_und ht, hd, asInt, asIntOf])
    · cases hb

def convO (T : TypeId → Option TI) (s d : TypeId) (x : AV) : Option ((Nat → AV) × AO) :=
  match T s, T d with
  | some si, some di => (match di.d, x with
    | .slice e, .str l => (match si.d, T e with
      | .string, some ei => (match ei.d with
        | .int .u8 => some (fun id => .sl 1 id 0 l.length none, .cells (l.map fun b => .int .u8 (b.toNat : Int)))
        | _ => none)
      | _, _ => none)
    | _, _ => none)
  | _, _ => none
theorem convL {P : Program} {g : Gh} {h : H} {w : World} (R : RS g h w) {s d : TypeId} {x : AV} {u : Value} (hx : Rel g x u) {y : Nat → AV} {ao : AO} (hb : convO (tiOf P) s d x = some (y, ao)) {id : Nat} (hid : h.get id = some ao) (hφ : g.φ id = none) :
    LOk P (convert s d u) g h w id (y id) := by
  unfold convO at hb
  split at hb
  · rename_i si di hs hd
    split at hb
    · rename_i e l hdd
      split at hb
      · rename_i ei hsd he
        split at hb <;> cases hb
        rename_i hei
        cases hx
        have R' : RS g h w.drew := R.of_heap rfl
        obtain ⟨cap, hcap⟩ : ∃ cap, cap = (Question.appendCap l.length 0 e).cut (w.tape w.drawn (.appendCap l.length 0 e)) := ⟨_, rfl⟩
        have hle : l.length ≤ cap := by rw [hcap]; simp [Question.cut]
        have hsc : ∀ y ∈ l.map (fun b => AV.int .u8 (b.toNat : Int)), y.sc = true := fun y hy => by obtain ⟨b, _, rfl⟩ := List.mem_map.1 hy; rfl
        let arr : Array Value := ((l.map (fun (b : UInt8) => Value.int .u8 (b.toNat : Int))) ++ List.replicate (cap - l.length) (Value.int .u8 0)).toArray
        have harr : arr.size = cap := by simp [arr]; omega
        let w1 := w.drew.alloc (.cells arr e)
        let w2 := w1.freeze ⟨w.heap.size, cap, none⟩ 1
        have hw1 : w1.heap[w.heap.size]? = some (.cells arr e (0, 0)) := by show ((w.heap.push _)[w.heap.size]?) = _; simp
        have hw2 : w2.heap[w.heap.size]? = some (.cells arr e (cap, cap + 1)) := by
          show (w1.freeze ⟨w.heap.size, cap, none⟩ 1).heap[w.heap.size]? = _
          rw [heap_freeze, if_pos rfl, hw1]; rfl
        have hsz2 : w2.heap.size = w.heap.size + 1 := by
          show (w1.freeze ⟨w.heap.size, cap, none⟩ 1).heap.size = _
          simp [World.freeze, w1]
        have hfr : ∀ b', b' < w.heap.size → w2.heap[b']? = w.heap[b']? := fun b' hb => by
          show (w1.freeze ⟨w.heap.size, cap, none⟩ 1).heap[b']? = _
          rw [heap_freeze, if_neg (by show ¬ b' = w.heap.size; omega)]
          exact Go.RowKit.Below.heap_alloc w _ b' hb
        refine ⟨.slice (some ⟨w.heap.size, 0, none⟩) l.length cap, w2, cap, ?_, R.real hid hφ hfr ⟨hsc, arr, e, cap, cap + 1, l.map (fun (b : UInt8) => Value.int .u8 (b.toNat : Int)), hw2, by omega, .inr (by omega),
          (relL_bytes g l).mono (Gh.le_add hφ), by simp; exact hle, fun i hi => ?_⟩, ?_, by omega, hfr, rfl, rfl, rfl⟩
        · unfold convert
          have hb0 : (⟨l.toArray⟩ : ByteArray).size = l.length := by simp [ByteArray.size]
          have harr' : ((⟨l.toArray⟩ : ByteArray).data.map (fun (b : UInt8) => Value.int .u8 (b.toNat : Int)) ++ Array.replicate (cap - l.length) (.int .u8 0)) = arr := by
            apply Array.ext'; simp [arr]
          simp only [Sem.run_bind, run_und hs, run_und hd, Result.andThen_ok, hsd, hdd, run_und he, hei, Conv.stringToBytes, hb0, run_choose, Question.forced, Bool.false_eq_true, if_false, ← hcap, World.drew_eq, newRow, run_newObj, World.alloc_eq, Sem.run_pure, harr', markStringish, run_shape]
          have hsh := shape_of hw1
          have hsh' : (w.drew.alloc (.cells arr e)).shape? w.drew.heap.size = some (e, cap) := by rw [← harr]; exact hsh
          simp only [hsh', run_freeze, Result.andThen_ok]
          rfl
        · have hi' : i < l.length := by simpa using hi
          simp [arr, List.getElem?_append, hi']
        · refine .sl 1 _ 0 _ none _ _ cap cap _ _ (by simp [Gh.add]) (by simp) hle (.inr ⟨rfl, rfl⟩)
      · cases hb
    · cases hb
  · cases hb

/-- An operation that makes one object and looks at no memory. -/
def objA (T : TypeId → Option TI) (e : Operand → AV) (o : Op) : Option ((Nat → AV) × AO) :=
  match o with
  | .alloc t => (match T t with | some ti => (match ti.zero with | some z => boxO z | none => none) | none => none)
  | .box _ x => boxO (e x)
  | .buildSlice t n ps => (match T t with | some ti => buildSliceO T ti n (ps.toList.map fun (i, x) => (i, e x)) | none => none)
  | .makeMap t r => makeMapO T t (mapO e r)
  | .makeSlice t l c => (match T t with | some ti => makeSliceO T ti (e l) (e c) | none => none)
  | .convert s d x => convO T s d (e x)
  | _ => none

theorem obj_ok {P : Program} {g : Gh} {h : H} {w : World} (R : RS g h w) {e : Operand → AV} {ρ : Operand → Value} (he : ∀ x, Rel g (e x) (ρ x)) {o : Oper} {y : Nat → AV} {ao : AO} (hb : objA (tiOf P) e o.op = some (y, ao)) {id : Nat} (hid : h.get id = some ao) (hφ : g.φ id = none) :
    ∃ v w' c, (execOp ρ o).run P w = .ok (.value v) w' ∧ RS (g.add id (w.heap.size, 0, c)) h w' ∧ Rel (g.add id (w.heap.size, 0, c)) (y id) v ∧ w.heap.size < w'.heap.size ∧
    (∀ b', b' < w.heap.size → w'.heap[b']? = w.heap[b']?) ∧ w'.os = w.os ∧ w'.tape = w.tape ∧ w'.output = w.output := by
  have fin : ∀ {s : Sem Value}, LOk P s g h w id (y id) → ∃ v w' c, (do pure (.value (← s)) : Sem Next).run P w = .ok (.value v) w' ∧ RS (g.add id (w.heap.size, 0, c)) h w' ∧ Rel (g.add id (w.heap.size, 0, c)) (y id) v ∧ w.heap.size < w'.heap.size ∧
      (∀ b', b' < w.heap.size → w'.heap[b']? = w.heap[b']?) ∧ w'.os = w.os ∧ w'.tape = w.tape ∧ w'.output = w.output := fun hL => by
    obtain ⟨v, w', c, h1, h2⟩ := hL
    exact ⟨v, w', c, by simp [h1], h2⟩
  unfold execOp
  unfold objA at hb
  have parts1 : ∀ ps : Array (Nat × Operand), (ps.toList.map fun (i, x) => (i, e x)).map (·.1) = ((ps.map fun (i, x) => (i, ρ x)).toList).map (·.1) := fun ps => by simp [List.map_map, Function.comp_def]
  have parts2 : ∀ ps : Array (Nat × Operand), RelL g ((ps.toList.map fun (i, x) => (i, e x)).map (·.2)) (((ps.map fun (i, x) => (i, ρ x)).toList).map (·.2)) := fun ps => by
    have := relL_map he (ps.toList.map (·.2))
    simpa [List.map_map, Function.comp_def] using this
  cases ho : o.op <;> rw [ho] at hb <;> simp only at hb ⊢ <;> try (cases hb; done)
  case alloc t =>
    split at hb
    · rename_i ti ht
      split at hb
      · rename_i z hz
        obtain ⟨zv, hrun, hzr⟩ := run_zero ht w hz g
        obtain ⟨v, w', c, h1, h2⟩ := boxL (P := P) R t hzr hb hid hφ
        refine fin ⟨v, w', c, ?_, h2⟩
        unfold Instr.alloc
        simp only [Sem.run_bind, hrun, Result.andThen_ok]
        simpa using h1
      · cases hb
    · cases hb
  case box t x => exact fin (boxL R t (he x) hb hid hφ)
  case buildSlice t n ps =>
    split at hb
    · rename_i ti ht
      have := buildSliceL (P := P) R ht (parts1 ps) (parts2 ps) hb hid hφ
      exact fin this
    · cases hb
  case makeMap t r => exact fin (makeMapL R (relO_map he r) hb hid hφ)
  case makeSlice t l c =>
    split at hb
    · rename_i ti ht; exact fin (makeSliceL R ht (he l) (he c) hb hid hφ)
    · cases hb
  case convert s d x => exact fin (convL R (he x) hb hid hφ)

end
end Go.Ab
/-! Regions of any order: the plan, and what runs it. -/
namespace Go.Ab
open Go
noncomputable section

/-! ### are these the same? -/
def lEq (f : AV → AV → Bool) : List AV → List AV → Bool
  | [], [] => true
  | a :: x, b :: y => (match f a b with | true => lEq f x y | false => false)
  | _, _ => false
theorem lEq_eq {f : AV → AV → Bool} (hf : ∀ a b, f a b = true → a = b) : ∀ {x y : List AV}, lEq f x y = true → x = y
  | [], [], _ => rfl
  | [], _ :: _, h => by cases h
  | _ :: _, [], h => by cases h
  | a :: x, b :: y, h => by
    unfold lEq at h
    split at h
    · rename_i hab; rw [hf _ _ hab, lEq_eq hf h]
    · cases h
def kEq (a b : IntKind) : Bool := decide (a = b)
def oEq : Option Nat → Option Nat → Bool | none, none => true | some a, some b => Nat.beq a b | _, _ => false
theorem oEq_eq : ∀ {a b : Option Nat}, oEq a b = true → a = b
  | none, none, _ => rfl
  | some a, some b, h => by rw [(beq_iff a b).1 h]
  | none, some _, h => by cases h
  | some _, none, h => by cases h
def fEq : Fn → Fn → Bool | .func a, .func b => Nat.beq a b | _, _ => false
theorem fEq_eq : ∀ {a b : Fn}, fEq a b = true → a = b
  | .func a, .func b, h => by rw [(beq_iff a b).1 h]
  | .func _, .method .., h => by cases h
  | .func _, .methodOf .., h => by cases h
  | .func _, .via .., h => by cases h
  | .func _, .yield .., h => by cases h
  | .via .., _, h => by cases h
  | .yield .., _, h => by cases h
  | .method .., _, h => by cases h
  | .methodOf .., _, h => by cases h

def avEq : Nat → AV → AV → Bool
  | 0, _, _ => false
  | n + 1, a, b => match a, b with
    | .bool a, .bool b => a == b
    | .int k a, .int l b => (match iEq a b with | true => kEq k l | false => false)
    | .str a, .str b => eqList a b
    | .nilptr, .nilptr => true
    | .ptr i a, .ptr j b => (match Nat.beq i j with | true => Nat.beq a b | false => false)
    | .iptr c a, .iptr d b => (match Nat.beq a b with | true => lEq (avEq n) c d | false => false)
    | .nilsl, .nilsl => true
    | .esl, .esl => true
    | .sl E i a l c, .sl E' j b m d => (match Nat.beq i j, Nat.beq a b, Nat.beq l m, Nat.beq E E' with | true, true, true, true => oEq c d | _, _, _, _ => false)
    | .nilmap, .nilmap => true
    | .map i, .map j => Nat.beq i j
    | .func f a c, .func f' a' c' => (match fEq f f', lEq (avEq n) a a' with | true, true => lEq (avEq n) c c' | _, _ => false)
    | .nilfunc, .nilfunc => true
    | .yield a, .yield b => Nat.beq a b
    | .iface t a, .iface u b => (match decide (t = u) with | true => avEq n a b | false => false)
    | .niliface, .niliface => true
    | .agg a, .agg b => lEq (avEq n) a b
    | .tup a, .tup b => lEq (avEq n) a b
    | _, _ => false
theorem avEq_eq : ∀ (n : Nat) {a b : AV}, avEq n a b = true → a = b
  | 0, _, _, h => by cases h
  | n + 1, a, b, h => by
    have ih := fun a b => avEq_eq n (a := a) (b := b)
    unfold avEq at h
    split at h
    · rw [eq_of_beq h]
    · split at h
      · rename_i h1; rw [(iEq_iff _ _).1 h1, of_decide_eq_true h]
      · cases h
    · rw [(eqList_iff _ _).1 h]
    · rfl
    · split at h
      · rename_i h1; rw [(beq_iff _ _).1 h1, (beq_iff _ _).1 h]
      · cases h
    · split at h
      · rename_i h1; rw [(beq_iff _ _).1 h1, lEq_eq ih h]
      · cases h
    · rfl
    · rfl
    · split at h
      · rename_i h1 h2 h3 h4; rw [(beq_iff _ _).1 h1, (beq_iff _ _).1 h2, (beq_iff _ _).1 h3, (beq_iff _ _).1 h4, oEq_eq h]
      · cases h
    · rfl
    · rw [(beq_iff _ _).1 h]
    · split at h
      · rename_i h1 h2; rw [fEq_eq h1, lEq_eq ih h2, lEq_eq ih h]
      · cases h
    · rfl
    · rw [(beq_iff _ _).1 h]
    · split at h
      · rename_i h1; rw [of_decide_eq_true h1, ih _ _ h]
      · cases h
    · rfl
    · rw [lEq_eq ih h]
    · rw [lEq_eq ih h]
    · cases h
def pEq : List (AV × AV) → List (AV × AV) → Bool
  | [], [] => true
  | a :: x, b :: y => (match avEq 6 a.1 b.1, avEq 6 a.2 b.2 with | true, true => pEq x y | _, _ => false)
  | _, _ => false
theorem pEq_eq : ∀ {x y : List (AV × AV)}, pEq x y = true → x = y
  | [], [], _ => rfl
  | [], _ :: _, h => by cases h
  | _ :: _, [], h => by cases h
  | (a, b) :: x, (c, d) :: y, h => by
    unfold pEq at h
    split at h
    · rename_i h1 h2; have e1 : a = c := avEq_eq 6 h1; have e2 : b = d := avEq_eq 6 h2; rw [e1, e2, pEq_eq h]
    · cases h
def aoEq : AO → AO → Bool
  | .cells a, .cells b => lEq (avEq 6) a b
  | .map a, .map b => pEq a b
  | _, _ => false
theorem aoEq_eq : ∀ {a b : AO}, aoEq a b = true → a = b
  | .cells a, .cells b, h => by rw [lEq_eq (fun _ _ => avEq_eq 6) h]
  | .map a, .map b, h => by rw [pEq_eq h]
  | .cells _, .map _, h => by cases h
  | .map _, .cells _, h => by cases h
  | .map _, .dfr, h => by cases h
  | .map _, .loop .., h => by cases h
  | .cells _, .dfr, h => by cases h
  | .cells _, .loop .., h => by cases h
  | .dfr, _, h => by cases h
  | .loop .., _, h => by cases h

/-! ### what floats -/
/-- It looks at its operands alone. -/
def isV : Op → Bool
  | .move _ | .assign _ | .pick .. | .build .. | .nilCheck _ | .binOp .. | .unOp .. | .makeInterface .. | .makeFunc .. | .slice .. | .fieldAddr .. | .field .. | .indexAddr .. | .index .. | .typeAssert .. | .extract .. => true
  | _ => false
/-- It changes nothing. -/
def isFloat (o : Op) : Bool :=
  match isV o with
  | true => true
  | false => match o with
    | .alloc _ | .box .. | .buildSlice .. | .load .. | .convert .. | .makeMap .. | .makeSlice .. | .lookup .. => true
    | .call c => (match c.callee with | .builtin .len | .builtin .cap | .builtin .min | .builtin .max => true | _ => false)
    | _ => false

theorem opA_V {T : TypeId → Option TI} {e : Operand → AV} {o : Op} (hv : isV o = true) {h : H} {y : AV} {h1 : H} (hb : opA T e h o = some (y, h1)) : h1 = h ∧ ∀ h2, opA T e h2 o = some (y, h2) := by
  cases o <;> first | (cases hv; done) | skip
  all_goals
    simp only [opA, aPick, aAlloc, aBuild, aBuildSlice, aLoad, aStore, aNilCheck, aBinOp, aUnOp, aMakeInterface, aMakeSlice, aSlice, aFieldAddr, aField, aIndexAddr, aIndex, aLookup, aMapUpdate, aTypeAssert, aExtract, aCall] at hb ⊢
    repeat' split at hb
    all_goals first | (cases hb; done) | (cases hb; refine ⟨rfl, fun h2 => ?_⟩; simp_all)

theorem map_congr' {α : Type} {e e' : α → AV} : ∀ {l : List α}, (∀ x, x ∈ l → e x = e' x) → l.map e = l.map e'
  | [], _ => rfl
  | a :: l, h => by rw [List.map_cons, List.map_cons, h a (by simp), map_congr' fun x hx => h x (by simp [hx])]
theorem mapO_congr {e e' : Operand → AV} : ∀ {o : Option Operand}, (∀ x, x ∈ o.toList → e x = e' x) → mapO e o = mapO e' o
  | none, _ => rfl
  | some x, h => by show some (e x) = some (e' x); rw [h x (by simp)]
theorem parts_congr {e e' : Operand → AV} {ps : Array (Nat × Operand)} (h : ∀ x, x ∈ (ps.toList.map (·.2)).toArray.toList → e x = e' x) : (ps.toList.map fun (i, x) => (i, e x)) = (ps.toList.map fun (i, x) => (i, e' x)) := by
  apply List.map_congr_left
  intro p hp
  have := h p.2 (by simp only [List.mem_map]; exact ⟨p, hp, rfl⟩)
  show (p.1, e p.2) = (p.1, e' p.2)
  rw [this]

theorem opA_congr {T : TypeId → Option TI} {e e' : Operand → AV} {o : Op} (he : ∀ x, x ∈ o.operands.toList → e x = e' x) (h : H) : opA T e h o = opA T e' h o := by
  cases o <;> simp only [opA, aPick, aAlloc, aBuild, aBuildSlice, aLoad, aStore, aNilCheck, aBinOp, aUnOp, aMakeInterface, aMakeSlice, aSlice, aFieldAddr, aField, aIndexAddr, aIndex, aLookup, aMapUpdate, aTypeAssert, aExtract, aCall, Op.operands] at he ⊢
  case build t ps => rw [parts_congr he]
  case buildSlice t n ps => rw [parts_congr he]
  case makeFunc fn f c => rw [map_congr' (l := f.toList) (e := e) (e' := e') fun x hx => he x (by simp at hx ⊢; exact .inl hx), map_congr' (l := c.toList) (e := e) (e' := e') fun x hx => he x (by simp at hx ⊢; exact .inr hx)]
  case makeMap t r => rw [mapO_congr (o := r) (e := e) (e' := e') fun x hx => he x (by simpa using hx)]
  case slice t x lo hi mx =>
    rw [he x (by simp), mapO_congr (o := lo) (e := e) (e' := e') fun x hx => he x (by simp at hx ⊢; simp [hx]), mapO_congr (o := hi) (e := e) (e' := e') fun x hx => he x (by simp at hx ⊢; simp [hx]), mapO_congr (o := mx) (e := e) (e' := e') fun x hx => he x (by simp at hx ⊢; simp [hx])]
  case call c =>
    cases hc : c.callee with
    | builtin b => simp only; rw [map_congr' (l := c.args.toList) (e := e) (e' := e') fun x hx => he x (by simp [Call.operands, hc]; simpa using hx)]
    | _ => rfl
  all_goals (try simp only [he _ (List.mem_singleton.2 rfl)])
  all_goals (try rfl)
  all_goals
    simp only [List.mem_cons, List.not_mem_nil, or_false, forall_eq_or_imp, forall_eq] at he
    simp only [he]

theorem opW_congr {T : TypeId → Option TI} {e e' : Operand → AV} {o : Op} (he : ∀ x, x ∈ o.operands.toList → e x = e' x) (h : H) : opW T e h o = opW T e' h o := by
  unfold opW
  rw [opA_congr he h]
  cases o <;> try rfl
  case slice t x lo hi mx =>
    simp only [Op.operands] at he
    simp only
    rw [he x (by simp), mapO_congr (o := lo) (e := e) (e' := e') fun x hx => he x (by simp at hx ⊢; simp [hx]), mapO_congr (o := hi) (e := e) (e' := e') fun x hx => he x (by simp at hx ⊢; simp [hx]), mapO_congr (o := mx) (e := e) (e' := e') fun x hx => he x (by simp at hx ⊢; simp [hx])]

theorem objA_congr {T : TypeId → Option TI} {e e' : Operand → AV} {o : Op} (he : ∀ x, x ∈ o.operands.toList → e x = e' x) : objA T e o = objA T e' o := by
  cases o <;> unfold objA <;> simp only [Op.operands] at he ⊢
  case box t x => rw [he x (by simp)]
  case convert s d x => rw [he x (by simp)]
  case buildSlice t n ps => rw [parts_congr he]
  case makeMap t r => rw [mapO_congr (o := r) (e := e) (e' := e') fun x hx => he x (by simpa using hx)]
  case makeSlice t l c => rw [he l (by simp), he c (by simp)]

/-- It reads: it is one of those, and changes nothing. -/
def isRd (T : TypeId → Option TI) (o : Op) : Bool :=
  match isV o with
  | true => true
  | false => match o with
    | .load .. | .lookup .. => true
    | .call c => (match c.callee with | .builtin .len | .builtin .cap | .builtin .min | .builtin .max => true | _ => false)
    | .convert _ d _ => (match T d with | some di => (match di.d with | .slice _ => false | _ => true) | none => false)
    | _ => false
theorem rd_ok {T : TypeId → Option TI} {e : Operand → AV} {o : Op} (hr : isRd T o = true) {h : H} {y : AV} {h1 : H} (hb : opA T e h o = some (y, h1)) : h1 = h := by
  cases hv : isV o with
  | true => exact (opA_V hv hb).1
  | false =>
    unfold isRd at hr
    rw [hv] at hr
    simp only at hr
    split at hr
    · simp only [opA, aPick, aAlloc, aBuild, aBuildSlice, aLoad, aStore, aNilCheck, aBinOp, aUnOp, aMakeInterface, aMakeSlice, aSlice, aFieldAddr, aField, aIndexAddr, aIndex, aLookup, aMapUpdate, aTypeAssert, aExtract, aCall] at hb
      repeat' split at hb
      all_goals first | (cases hb; done) | (cases hb; rfl)
    · simp only [opA, aPick, aAlloc, aBuild, aBuildSlice, aLoad, aStore, aNilCheck, aBinOp, aUnOp, aMakeInterface, aMakeSlice, aSlice, aFieldAddr, aField, aIndexAddr, aIndex, aLookup, aMapUpdate, aTypeAssert, aExtract, aCall] at hb
      repeat' split at hb
      all_goals first | (cases hb; done) | (cases hb; rfl)
    · rename_i c
      simp only [opA, aCall] at hb
      split at hr <;> first | (cases hr; done) | skip
      all_goals
        rename_i hc
        rw [hc] at hb
        simp only at hb
        unfold builtinA at hb
        repeat' split at hb
        all_goals first | (cases hb; done) | (cases hb; rfl) | contradiction
    · rename_i s d x
      simp only [opA, convA] at hb
      repeat' split at hb
      all_goals first | (cases hb; done) | (cases hb; rfl) | (simp_all; done)
    · cases hr

/-! ### the plan -/
section
variable (ops : List Oper)

def bd (e : Edge) : Bool := match e.ground with | .textOnly _ => false | .gcOnly _ => false | _ => true
def memN (i : Nat) : List Nat → Bool | [] => false | j :: r => (match Nat.beq i j with | true => true | false => memN i r)
def afterIn (done : List Nat) (o : Oper) : Bool := o.after.toList.all fun e => match bd e with | true => memN e.on done | false => true
/-- What it looks at. -/
def looks (o : Oper) : List Tmp :=
  (o.op.operands.toList.filterMap fun | .tmp t => some t | _ => none) ++
  (match o.guard with
   | some (g, _) => (match ops[g]? with | some og => (match og.dst with | some d => [d] | none => []) | none => [])
   | none => [])
def hasAfter (i : Nat) (o : Oper) : Bool := o.after.toList.any fun e => match bd e with | true => Nat.beq e.on i | false => false

/-- It floats: it changes nothing, and whoever looks at what it writes waits for it. -/
def flOf (i : Nat) (o : Oper) : Bool :=
  match isFloat o.op with
  | false => false
  | true => match o.dst with
    | none => true
    | some d => ops.all fun q => match memN d (looks ops q) with | false => true | true => hasAfter i q
def nextOp (done : List Nat) (k : Bool) : Nat → List Oper → Option Nat
  | _, [] => none
  | i, o :: r => match memN i done, afterIn done o with
    | false, true => (match k || flOf ops i o with | true => some i | false => nextOp done k (i + 1) r)
    | _, _ => nextOp done k (i + 1) r
def order : Nat → List Nat → List Nat
  | 0, _ => []
  | n + 1, done => match nextOp ops done false 0 ops with
    | some i => i :: order n (i :: done)
    | none => match nextOp ops done true 0 ops with
      | some i => i :: order n (i :: done)
      | none => []

/-- Who looks at what i writes waits for i, or i for him; and nobody else writes there. -/
def apart1 (i : Nat) (oi : Oper) (d : Tmp) : Nat → List Oper → Bool
  | _, [] => true
  | j, q :: r => (match memN d (looks ops q) with | false => true | true => hasAfter i q || (Nat.beq i j || hasAfter j oi)) && (match q.dst with | some d' => (match Nat.beq d' d with | true => Nat.beq i j | false => true) | none => true) && apart1 i oi d (j + 1) r
def apartAll : Nat → List Oper → Bool
  | _, [] => true
  | i, o :: r => match (match o.dst with | some d => apart1 ops i o d 0 ops | none => true) with
    | true => apartAll (i + 1) r
    | false => false

/-- Whoever comes later waits for something not yet done. -/
def blocked (done rest : List Nat) : Bool := rest.all fun j => match ops[j]? with
  | some q => q.after.toList.any fun e => match bd e, memN e.on done with | true, false => true | _, _ => false
  | none => false
def okFrom : List Nat → List Nat → Bool
  | done, [] => (List.range ops.length).all fun i => memN i done
  | done, s :: rest => match ops[s]? with
    | none => false
    | some o => match memN s done, afterIn done o, flOf ops s o || blocked ops done rest with
      | false, true, true => okFrom (s :: done) rest
      | _, _, _ => false
def thePlan : Option (List Nat) :=
  let l := order ops ops.length []
  match okFrom ops [] l, apartAll ops 0 ops with
  | true, true => some l
  | _, _ => none
end

/-! ### the run -/
inductive PK | skip | read | obj (id : Nat) (y : Nat → AV) (ao : AO)
structure PF where
  i : Nat
  o : Oper
  v : AV
  k : PK

def dropF : List Nat → List PF → List PF
  | _, [] => []
  | need, p :: r => match memN p.i need with
    | true => dropF ((p.o.after.toList.filter bd).map (·.on) ++ need) r
    | false => p :: dropF need r

section
variable (T : TypeId → Option TI) (G : Nat → Option (List AV)) (S : Self) (rd : Bool) (ops : List Oper)

def still (tm : Env) (h : H) (p : PF) : Bool :=
  match p.k with
  | .skip => true
  | .read => (match isV p.o.op with
    | true => true
    | false => (match opA T (ev G tm) h p.o.op with | some (v, _) => avEq 6 v p.v | none => false))
  | .obj id _ ao => (match h.get id with | some ao' => aoEq ao' ao | none => false)
def stills (tm : Env) (h : H) : List PF → Bool
  | [] => true
  | p :: r => match still T G tm h p with | true => stills tm h r | false => false

def drawA : List Nat → AcA → H → List PF → RC
  | [], a, h, _ => .ok .normal a h
  | i :: r, a, h, pend => match ops[i]? with
    | none => .fail
    | some o => match flOf ops i o with
      | true => (match wantedA ops o a.tmps with
        | none => .fail
        | some false => drawA r (a.put o.dst undefA) h (⟨i, o, undefA, .skip⟩ :: pend)
        | some true => (match objA T (ev G a.tmps) o.op with
          | some (y, ao) => (match h.room, stills T G a.tmps (h.new ao) pend with
            | true, true => drawA r (a.put o.dst (y h.next)) (h.new ao) (⟨i, o, y h.next, .obj h.next y ao⟩ :: pend)
            | _, _ => .fail)
          | none => (match isRd T o.op, opA T (ev G a.tmps) h o.op with
            | true, some (v, _) => drawA r (a.put o.dst v) h (⟨i, o, v, .read⟩ :: pend)
            | _, _ => .fail)))
      | false =>
        let pend := dropF ((o.after.toList.filter bd).map (·.on)) pend
        match wantedA ops o a.tmps with
        | none => .fail
        | some false => drawA r (a.put o.dst undefA) h pend
        | some true => match opR T G S rd a h o with
          | .val v h => (match stills T G (a.put o.dst v).tmps h pend with
            | true => drawA r (a.put o.dst v) h pend
            | false => .fail)
          | .panic v h => (match pend with | [] => .ok (.panic v) a h | _ => .fail)
          | .defer d => drawA r (({ a with defs := d :: a.defs } : AcA).put o.dst undefA) h pend
          | .fail => .fail
def draw (a : AcA) (h : H) : RC :=
  match thePlan ops with
  | some l => drawA T G S rd ops l a h []
  | none => .fail
end
end
end Go.Ab
/-! Regions of any order: why the plan is right. -/
namespace Go.Ab
open Go
noncomputable section

theorem bd_eq (e : Edge) : bd e = Region.binds .any e := by
  unfold bd Region.binds
  cases e.ground <;> rfl
theorem memN_iff {i : Nat} : ∀ {l : List Nat}, memN i l = true ↔ i ∈ l
  | [] => by simp [memN]
  | j :: r => by
    unfold memN
    split
    · rename_i h; rw [(beq_iff _ _).1 h]; simp
    · rename_i h
      have hne : i ≠ j := fun e => by rw [(beq_iff _ _).2 e] at h; cases h
      rw [memN_iff (l := r)]; simp [hne]
theorem memN_no {i : Nat} {l : List Nat} : memN i l = false ↔ i ∉ l := by
  rw [← memN_iff]; simp
theorem afterIn_spec {done : List Nat} {o : Oper} (h : afterIn done o = true) : ∀ e ∈ o.after.toList, bd e = true → e.on ∈ done := by
  intro e he hb
  have := List.all_eq_true.1 h e he
  rw [hb] at this
  exact memN_iff.1 this
theorem hasAfter_spec {i : Nat} {o : Oper} (h : hasAfter i o = true) : ∃ e ∈ o.after.toList, bd e = true ∧ e.on = i := by
  obtain ⟨e, he, h1⟩ := List.any_eq_true.1 h
  split at h1
  · rename_i hb; exact ⟨e, he, hb, (beq_iff _ _).1 h1⟩
  · cases h1

theorem apart1_spec {ops : List Oper} {i : Nat} {oi : Oper} {d : Tmp} : ∀ (r : List Oper) (j : Nat), apart1 ops i oi d j r = true → ∀ (k : Nat) q, r[k]? = some q →
    (d ∈ looks ops q → hasAfter i q = true ∨ j + k = i ∨ hasAfter (j + k) oi = true) ∧ (q.dst = some d → j + k = i)
  | [], j, h, k, q, hq => by simp at hq
  | o :: r, j, h, k, q, hq => by
    unfold apart1 at h
    rw [Bool.and_eq_true, Bool.and_eq_true] at h
    obtain ⟨⟨h1, h2⟩, h3⟩ := h
    cases k with
    | zero =>
      simp at hq; subst hq
      simp only [Nat.add_zero]
      refine ⟨fun hd => ?_, fun hd => ?_⟩
      · rw [memN_iff.2 hd] at h1
        simp only [Bool.or_eq_true, beq_iff] at h1
        exact h1.imp id (Or.imp Eq.symm id)
      · rw [hd] at h2
        simp only [(beq_iff d d).2 rfl] at h2
        exact ((beq_iff _ _).1 h2).symm
    | succ k =>
      have := apart1_spec r (j + 1) h3 k q (by simpa using hq)
      rw [show j + 1 + k = j + (k + 1) by omega] at this
      exact this
theorem apartAll_spec {ops : List Oper} : ∀ (r : List Oper) (i : Nat), apartAll ops i r = true → ∀ (k : Nat) o d, r[k]? = some o → o.dst = some d → apart1 ops (i + k) o d 0 ops = true
  | [], i, h, k, o, d, hk, hd => by simp at hk
  | p :: r, i, h, k, o, d, hk, hd => by
    unfold apartAll at h
    split at h
    · rename_i h1
      cases k with
      | zero => simp at hk; subst hk; rw [hd] at h1; exact h1
      | succ k =>
        have := apartAll_spec r (i + 1) h k o d (by simpa using hk) hd
        rw [show i + (k + 1) = i + 1 + k by omega]; exact this
    · cases h

/-- What the plan's checks give. -/
structure Apart (ops : Array Oper) : Prop where
  look : ∀ (i : Nat) o d (j : Nat) q, ops[i]? = some o → o.dst = some d → ops[j]? = some q → d ∈ looks ops.toList q → (∃ e ∈ q.after.toList, bd e = true ∧ e.on = i) ∨ j = i ∨ (∃ e ∈ o.after.toList, bd e = true ∧ e.on = j)
  dst : ∀ (i : Nat) o d (j : Nat) q, ops[i]? = some o → o.dst = some d → ops[j]? = some q → q.dst = some d → j = i
theorem apart_of {ops : Array Oper} (h : apartAll ops.toList 0 ops.toList = true) : Apart ops := by
  have key : ∀ (i : Nat) o d, ops[i]? = some o → o.dst = some d → apart1 ops.toList i o d 0 ops.toList = true := fun i o d hi hd => by
    have := apartAll_spec ops.toList 0 h i o d (by simpa using hi) hd
    simpa using this
  refine ⟨fun i o d j q hi hd hj hl => ?_, fun i o d j q hi hd hj hq => ?_⟩
  · have := (apart1_spec _ 0 (key i o d hi hd) j q (by simpa using hj)).1 hl
    rw [Nat.zero_add] at this
    exact this.imp hasAfter_spec (Or.imp id hasAfter_spec)
  · have := (apart1_spec _ 0 (key i o d hi hd) j q (by simpa using hj)).2 hq
    omega
/-- Who looks at what a floating one writes, waits for it. -/
theorem flOf_spec {ops : Array Oper} {i : Nat} {o : Oper} (h : flOf ops.toList i o = true) {d : Tmp} (hd : o.dst = some d) {j : Nat} {q : Oper} (hj : ops[j]? = some q) (hl : d ∈ looks ops.toList q) : ∃ e ∈ q.after.toList, bd e = true ∧ e.on = i := by
  unfold flOf at h
  split at h
  · cases h
  · rw [hd] at h
    have hm : q ∈ ops.toList := List.mem_of_getElem? (i := j) (by simpa using hj)
    have := List.all_eq_true.1 h q hm
    rw [memN_iff.2 hl] at this
    exact hasAfter_spec this

theorem okFrom_cover {ops : List Oper} : ∀ (rest done : List Nat), okFrom ops done rest = true → ∀ i, i < ops.length → i ∈ done ∨ i ∈ rest
  | [], done, h, i, hi => .inl (memN_iff.1 (List.all_eq_true.1 h i (List.mem_range.2 hi)))
  | s :: rest, done, h, i, hi => by
    unfold okFrom at h
    split at h
    · cases h
    · split at h
      · rcases okFrom_cover rest (s :: done) h i hi with h1 | h1
        · rcases List.mem_cons.1 h1 with rfl | h2
          · exact .inr (by simp)
          · exact .inl h2
        · exact .inr (by simp [h1])
      · cases h
theorem okFrom_not {ops : List Oper} : ∀ (rest done : List Nat), okFrom ops done rest = true → ∀ i ∈ rest, i ∉ done
  | [], done, h, i, hi => by cases hi
  | s :: rest, done, h, i, hi => by
    unfold okFrom at h
    split at h
    · cases h
    · split at h
      · rename_i h1 h2 h3
        rcases List.mem_cons.1 hi with rfl | hi
        · exact memN_no.1 h1
        · exact fun hd => okFrom_not rest (s :: done) h i hi (by simp [hd])
      · cases h
theorem okFrom_head {ops : List Oper} {s : Nat} {rest done : List Nat} (h : okFrom ops done (s :: rest) = true) : ∃ o, ops[s]? = some o ∧ s ∉ done ∧ (∀ e ∈ o.after.toList, bd e = true → e.on ∈ done) ∧
    (flOf ops s o = false → ∀ j ∈ rest, ∀ q, ops[j]? = some q → ∃ e ∈ q.after.toList, bd e = true ∧ e.on ∉ done) ∧ okFrom ops (s :: done) rest = true := by
  unfold okFrom at h
  split at h
  · cases h
  · rename_i o ho
    split at h
    · rename_i h1 h2 h3
      refine ⟨o, ho, memN_no.1 h1, afterIn_spec h2, fun hf j hj q hq => ?_, h⟩
      rw [hf, Bool.false_or] at h3
      have := List.all_eq_true.1 h3 j hj
      rw [hq] at this
      obtain ⟨e, he, h4⟩ := List.any_eq_true.1 this
      split at h4
      · rename_i h5 h6; exact ⟨e, he, h5, memN_no.1 h6⟩
      · cases h4
    · cases h

theorem dropF_sub : ∀ (pend : List PF) (need : List Nat), ∀ p ∈ dropF need pend, p ∈ pend
  | [], need, p, h => by cases h
  | q :: r, need, p, h => by
    unfold dropF at h
    split at h
    · exact List.mem_cons_of_mem _ (dropF_sub r _ p h)
    · rcases List.mem_cons.1 h with rfl | h
      · simp
      · exact List.mem_cons_of_mem _ (dropF_sub r _ p h)

theorem dropF_not : ∀ (pend : List PF) (need : List Nat), ∀ p ∈ dropF need pend, p.i ∉ need
  | [], need, p, h => by cases h
  | q :: r, need, p, h => by
    unfold dropF at h
    split at h
    · exact fun hn => dropF_not r _ p h (List.mem_append.2 (.inr hn))
    · rename_i hm
      rcases List.mem_cons.1 h with rfl | h
      · exact memN_no.1 hm
      · exact dropF_not r _ p h

section
variable {ops : Array Oper} {listed : Array Bool}
/-- Whoever is listed, is listed after those it waits for. -/
def Closed (ops : Array Oper) (listed : Array Bool) : Prop := ∀ i o, ops[i]? = some o → listed.getD i false = true → ∀ e ∈ o.after.toList, bd e = true → listed.getD e.on false = true

theorem dropF_keep (hc : Closed ops listed) : ∀ (pend : List PF) (need : List Nat), (∀ p ∈ pend, ops[p.i]? = some p.o) → (∀ i ∈ need, listed.getD i false = true) → ∀ p ∈ pend, p ∈ dropF need pend ∨ listed.getD p.i false = true
  | [], need, _, _, p, h => by cases h
  | q :: r, need, ho, hn, p, h => by
    unfold dropF
    split
    · rename_i hm
      have hq := hn _ (memN_iff.1 hm)
      rcases List.mem_cons.1 h with rfl | h
      · exact .inr hq
      · refine dropF_keep hc r _ (fun p hp => ho p (by simp [hp])) (fun i hi => ?_) p h
        rcases List.mem_append.1 hi with hi | hi
        · obtain ⟨e, he, rfl⟩ := List.mem_map.1 hi
          obtain ⟨h1, h2⟩ := List.mem_filter.1 he
          exact hc _ _ (ho q (by simp)) hq e h1 h2
        · exact hn i hi
    · rcases List.mem_cons.1 h with rfl | h
      · exact .inl (by simp)
      · rcases dropF_keep hc r need (fun p hp => ho p (by simp [hp])) hn p h with h1 | h1
        · exact .inl (by simp [h1])
        · exact .inr h1

/-- Each waits for what is listed, or for one behind it. -/
def PO (listed : Array Bool) : List PF → Prop
  | [] => True
  | p :: r => (∀ e ∈ p.o.after.toList, bd e = true → listed.getD e.on false = true ∨ ∃ q ∈ r, q.i = e.on) ∧ PO listed r
theorem PO.first : ∀ {pend : List PF}, PO listed pend → (∃ p ∈ pend, listed.getD p.i false ≠ true) → ∃ p ∈ pend, listed.getD p.i false ≠ true ∧ ∀ e ∈ p.o.after.toList, bd e = true → listed.getD e.on false = true
  | [], _, ⟨p, h, _⟩ => by cases h
  | q :: r, ⟨h1, h2⟩, ⟨p, hp, hu⟩ => by
    by_cases hr : ∃ p ∈ r, listed.getD p.i false ≠ true
    · obtain ⟨p, h3, h4⟩ := h2.first hr
      exact ⟨p, by simp [h3], h4⟩
    · have all : ∀ p ∈ r, listed.getD p.i false = true := fun p hp => Classical.byContradiction fun h => hr ⟨p, hp, h⟩
      rcases List.mem_cons.1 hp with rfl | hp
      · exact ⟨p, by simp, hu, fun e he hb => (h1 e he hb).elim id fun ⟨x, hx, hxe⟩ => hxe ▸ all x hx⟩
      · exact absurd (all p hp) hu
theorem PO.mono {listed' : Array Bool} (hm : ∀ i, listed.getD i false = true → listed'.getD i false = true) : ∀ {pend : List PF}, PO listed pend → PO listed' pend
  | [], _ => trivial
  | p :: r, ⟨h1, h2⟩ => ⟨fun e he hb => (h1 e he hb).imp (hm _) id, h2.mono hm⟩
theorem PO.drop (hc : Closed ops listed) : ∀ {pend : List PF} (need : List Nat), (∀ p ∈ pend, ops[p.i]? = some p.o) → (∀ i ∈ need, listed.getD i false = true) → PO listed pend → PO listed (dropF need pend)
  | [], _, _, _, _ => trivial
  | q :: r, need, ho, hn, ⟨h1, h2⟩ => by
    have ho' : ∀ p ∈ r, ops[p.i]? = some p.o := fun p hp => ho p (by simp [hp])
    unfold dropF
    split
    · rename_i hm
      have hq := hn _ (memN_iff.1 hm)
      refine h2.drop hc _ ho' fun i hi => ?_
      rcases List.mem_append.1 hi with hi | hi
      · obtain ⟨e, he, rfl⟩ := List.mem_map.1 hi
        obtain ⟨h1, h2⟩ := List.mem_filter.1 he
        exact hc _ _ (ho q (by simp)) hq e h1 h2
      · exact hn i hi
    · refine ⟨fun e he hb => (h1 e he hb).elim .inl fun ⟨x, hx, hxe⟩ => ?_, h2.drop hc need ho' hn⟩
      rcases dropF_keep hc r need ho' hn x hx with h3 | h3
      · exact .inr ⟨x, h3, hxe⟩
      · exact .inl (hxe ▸ h3)
end

/-! ### what it looks at is all that matters -/
theorem wanted_congr {ops : List Oper} {o : Oper} {tm tm' : Env} (h : ∀ t ∈ looks ops o, eget tm t = eget tm' t) : wantedA ops o tm = wantedA ops o tm' := by
  unfold wantedA
  cases hg : o.guard with
  | none => rfl
  | some p =>
    obtain ⟨j, want⟩ := p
    simp only
    cases hj : ops[j]? with
    | none => rfl
    | some oj =>
      simp only
      cases hd : oj.dst with
      | none => rfl
      | some d =>
        simp only
        rw [h d (by unfold looks; rw [hg]; simp [hj, hd])]
theorem ev_congr {ops : List Oper} {o : Oper} {tm tm' : Env} (G : Nat → Option (List AV)) (h : ∀ t ∈ looks ops o, eget tm t = eget tm' t) : ∀ x ∈ o.op.operands.toList, ev G tm x = ev G tm' x := by
  intro x hx
  cases x with
  | tmp t =>
    refine h t ?_
    unfold looks
    refine List.mem_append.2 (.inl (List.mem_filterMap.2 ⟨.tmp t, hx, rfl⟩))
  | _ => rfl
theorem opR_congr {T : TypeId → Option TI} {G : Nat → Option (List AV)} {S : Self} {rd : Bool} {ops : List Oper} {a a' : AcA} {h : H} {o : Oper} (hl : ∀ t ∈ looks ops o, eget a.tmps t = eget a'.tmps t) : opR T G S rd a h o = opR T G S rd a' h o := by
  have he := ev_congr G hl
  simp only [opR, rCall, rDefer, rPlain]
  cases ho : o.op <;> simp only <;> try rw [opW_congr (by rw [ho] at he; exact he) h]
  case call c =>
    rw [ho] at he
    have hargs : c.args.toList.map (ev G a.tmps) = c.args.toList.map (ev G a'.tmps) := map_congr' fun x hx => he x (by simp only [Op.operands, Call.operands]; rw [Array.toList_append]; exact List.mem_append.2 (.inr hx))
    cases hc : c.callee with
    | value f => simp only; rw [hargs, he f (by simp [Op.operands, Call.operands, hc])]
    | builtin b => simp only; rw [hargs]
    | invoke r m => simp only; rw [he r (by simp [Op.operands, Call.operands, hc])]; simp only [hargs]
  case panic x => rw [ho] at he; rw [he x (by simp [Op.operands])]
  case defer c =>
    rw [ho] at he
    have hargs : c.args.toList.map (ev G a.tmps) = c.args.toList.map (ev G a'.tmps) := map_congr' fun x hx => he x (by simp only [Op.operands, Call.operands]; rw [Array.toList_append]; exact List.mem_append.2 (.inr hx))
    cases hc : c.callee with
    | value f => cases rd <;> simp only; rw [hargs, he f (by simp [Op.operands, Call.operands, hc])]
    | _ => cases rd <;> rfl

theorem put_n (a : AcA) (d : Option Tmp) (v : AV) : (a.put d v).tmps.n = a.tmps.n := by
  cases d with
  | none => rfl
  | some d => exact eset_n _ _ _
theorem eget_put_other {a : AcA} {d : Option Tmp} {v : AV} {t : Tmp} (h : d ≠ some t) : eget (a.put d v).tmps t = eget a.tmps t := by
  cases d with
  | none => rfl
  | some d => exact eget_eset_other _ _ _ _ fun e => h (by rw [e])

theorem eset_hi (e : Env) (d t : Nat) (v : AV) (h : e.n ≤ t) : eget (eset e d v) t = eget e t := by
  by_cases hd : d = t
  · subst hd; rw [eset_out e d v (Nat.not_lt.2 h)]
  · exact eget_eset_other _ _ _ _ hd
theorem put_hi (a : AcA) (d : Option Tmp) (t : Nat) (v : AV) (h : a.tmps.n ≤ t) : eget (a.put d v).tmps t = eget a.tmps t := by
  cases d with
  | none => rfl
  | some d => exact eset_hi _ _ _ _ h

/-- Some slots are as they should be; the others are what they are. -/
theorem mask {g : Gh} (good : Nat → Prop) (e : Env) (vs : List Value) (hn : e.n = vs.length) (hi : e.n ≤ 512) (hr : ∀ t, good t → Rel g (eget e t) (vs.getD t Go.undef)) (hhi : ∀ t, e.n ≤ t → Rel g (eget e t) Go.undef) :
    ∃ am, RelT g am vs ∧ ∀ t, good t → eget am t = eget e t := by
  have step : ∀ k, ∃ am : Env, am.n = e.n ∧ (∀ t, good t → eget am t = eget e t) ∧ (∀ t, t < k → t < e.n → Rel g (eget am t) (vs.getD t Go.undef)) ∧ ∀ t, e.n ≤ t → eget am t = eget e t := by
    intro k
    induction k with
    | zero => exact ⟨e, rfl, fun _ _ => rfl, fun t h => absurd h (Nat.not_lt_zero t), fun _ _ => rfl⟩
    | succ k ih =>
      obtain ⟨am, h1, h2, h3, h4⟩ := ih
      by_cases hg : good k
      · exact ⟨am, h1, h2, fun t ht htn => by
          by_cases hk : t = k
          · subst hk; rw [h2 t hg]; exact hr t hg
          · exact h3 t (by omega) htn, h4⟩
      · refine ⟨eset am k (.raw (vs.getD k Go.undef)), (eset_n _ _ _).trans h1, fun t ht => ?_, fun t ht htn => ?_, fun t ht => ?_⟩
        · have hne : k ≠ t := fun e => hg (e ▸ ht)
          rw [eget_eset_other _ _ _ _ hne]; exact h2 t ht
        · by_cases hk : k = t
          · subst hk
            rw [eget_eset_same _ _ _ (Nat.lt_of_lt_of_le htn hi) (h1 ▸ htn)]; exact .raw _
          · rw [eget_eset_other _ _ _ _ hk]; exact h3 t (by omega) htn
        · rw [eset_hi _ _ _ _ (h1 ▸ ht)]; exact h4 t ht
  obtain ⟨am, h1, h2, h3, h4⟩ := step e.n
  refine ⟨am, ⟨h1.trans hn, h1 ▸ hi, fun t => ?_⟩, h2⟩
  by_cases ht : t < e.n
  · exact h3 t ht ht
  · have ht' : e.n ≤ t := Nat.le_of_not_lt ht
    rw [h4 t ht']
    have : vs.getD t Go.undef = Go.undef := by
      rw [List.getD_eq_getElem?_getD, List.getElem?_eq_none (by omega)]; rfl
    rw [this]; exact hhi t ht'
end
end Go.Ab
/-! Regions of any order: what holds between two steps. -/
namespace Go.Ab
open Go
noncomputable section

section
variable {P : Program} {G : Nat → Option (List AV)} {ops : Array Oper}

/-- What is known of one that may not have run yet. -/
def Spec (P : Program) (G : Nat → Option (List AV)) (ops : Array Oper) (lo : Nat) (a : AcA) (h : H) (p : PF) : Prop :=
  match p.k with
  | .skip => wantedA ops.toList p.o a.tmps = some false ∧ p.v = undefA
  | .read => wantedA ops.toList p.o a.tmps = some true ∧ isRd (tiOf P) p.o.op = true ∧ opA (tiOf P) (ev G a.tmps) h p.o.op = some (p.v, h)
  | .obj id y ao => wantedA ops.toList p.o a.tmps = some true ∧ objA (tiOf P) (ev G a.tmps) p.o.op = some (y, ao) ∧ p.v = y id ∧ h.get id = some ao ∧ lo ≤ id ∧ id < h.next
def idOf (p : PF) : Option Nat := match p.k with | .obj id _ _ => some id | _ => none

theorem Spec.tmps {lo : Nat} {a a' : AcA} {h : H} {p : PF} (hl : ∀ t ∈ looks ops.toList p.o, eget a.tmps t = eget a'.tmps t) (hs : Spec P G ops lo a h p) : Spec P G ops lo a' h p := by
  have he := ev_congr G hl
  unfold Spec at hs ⊢
  split at hs
  · exact ⟨(wanted_congr hl) ▸ hs.1, hs.2⟩
  · exact ⟨(wanted_congr hl) ▸ hs.1, hs.2.1, (opA_congr he h) ▸ hs.2.2⟩
  · exact ⟨(wanted_congr hl) ▸ hs.1, (objA_congr (T := tiOf P) he) ▸ hs.2.1, hs.2.2⟩

/-- The checks that are made when the memory has changed. -/
theorem Spec.still {lo : Nat} {a : AcA} {h h' : H} {p : PF} (hn : h.next ≤ h'.next) (hs : Spec P G ops lo a h p) (hc : still (tiOf P) G a.tmps h' p = true) : Spec P G ops lo a h' p := by
  unfold Spec at hs ⊢
  unfold Ab.still at hc
  split at hs
  · exact hs
  · rename_i hk
    rw [hk] at hc
    obtain ⟨h1, h2, h3⟩ := hs
    refine ⟨h1, h2, ?_⟩
    simp only at hc
    split at hc
    · rename_i hv; exact (opA_V hv h3).2 h'
    · split at hc
      · rename_i v h1' hb
        have e1 := rd_ok h2 hb
        have e2 := avEq_eq 6 hc
        subst e1; subst e2
        exact hb
      · cases hc
  · rename_i id y ao hk
    rw [hk] at hc
    obtain ⟨h1, h2, h3, h4, h5, h6⟩ := hs
    simp only at hc
    split at hc
    · rename_i ao' hb
      have := aoEq_eq hc
      subst this
      exact ⟨h1, h2, h3, hb, h5, Nat.lt_of_lt_of_le h6 hn⟩
    · cases hc
theorem stills_mem {tm : Env} {h : H} : ∀ {l : List PF}, stills (tiOf P) G tm h l = true → ∀ p ∈ l, still (tiOf P) G tm h p = true
  | [], _, p, hp => by cases hp
  | q :: r, hs, p, hp => by
    unfold stills at hs
    split at hs
    · rename_i h1
      rcases List.mem_cons.1 hp with rfl | hp
      · exact h1
      · exact stills_mem hs p hp
    · cases hs

structure Inv (P : Program) (G : Nat → Option (List AV)) (ops : Array Oper) (g0 : Gh) (h0 : H) (w0 : World) (done rest : List Nat) (pend : List PF) (a : AcA) (h : H) (listed : Array Bool) (g : Gh) (ca : Act) (w : World) : Prop where
  size : listed.size = ops.size
  ok : okFrom ops.toList done rest = true
  closed : Closed ops listed
  R : RS g h w
  X : Ext g0 h0 w0 g h w
  df : RelD g a.defs ca.defers
  len : a.tmps.n = ca.tmps.size
  hi : a.tmps.n ≤ 512
  tmhi : ∀ t, a.tmps.n ≤ t → Rel g (eget a.tmps t) Go.undef
  tm : ∀ t, (∀ p ∈ pend, listed.getD p.i false ≠ true → p.o.dst ≠ some t) → Rel g (eget a.tmps t) (ca.tmps.toList.getD t Go.undef)
  dn : ∀ i ∈ done, listed.getD i false = true ∨ ∃ p ∈ pend, p.i = i
  rs : ∀ i ∈ rest, listed.getD i false ≠ true
  po : PO listed pend
  atp : ∀ p ∈ pend, ops[p.i]? = some p.o ∧ p.i ∈ done ∧ (∀ e ∈ p.o.after.toList, bd e = true → e.on ∈ done)
  fl : ∀ p ∈ pend, flOf ops.toList p.i p.o = true
  spec : ∀ p ∈ pend, Spec P G ops h0.next a h p
  gh : ∀ p ∈ pend, ∀ id, idOf p = some id → listed.getD p.i false ≠ true → g.φ id = none
  inj : ∀ p ∈ pend, ∀ q ∈ pend, ∀ id, idOf p = some id → idOf q = some id → p.i = q.i
  dv : ∀ p ∈ pend, ∀ d, p.o.dst = some d → d < a.tmps.n → eget a.tmps d = p.v

theorem getD_set_same {listed : Array Bool} {i : Nat} (h : i < listed.size) : (listed.setIfInBounds i true).getD i false = true := by
  simp [h]

section
variable {g0 : Gh} {h0 : H} {w0 : World} {done rest : List Nat} {pend : List PF} {a : AcA} {h : H} {listed : Array Bool} {g : Gh} {ca : Act} {w : World}

theorem Inv.notlook (I : Inv P G ops g0 h0 w0 done rest pend a h listed g ca w) {i : Nat} {o : Oper} (hf : flOf ops.toList i o = true) (hi : i ∉ done) {d : Tmp} (hd : o.dst = some d) : ∀ p ∈ pend, d ∉ looks ops.toList p.o := by
  intro p hp hl
  obtain ⟨h1, h2, h3⟩ := I.atp p hp
  obtain ⟨e, he, hb, hon⟩ := flOf_spec hf hd h1 hl
  exact hi (hon ▸ h3 e he hb)
theorem Inv.notlook' (hA : Apart ops) (I : Inv P G ops g0 h0 w0 done rest pend a h listed g ca w) {i : Nat} {o : Oper} (ho : ops[i]? = some o) (hi : i ∉ done) {d : Tmp} (hd : o.dst = some d) : ∀ p ∈ dropF ((o.after.toList.filter bd).map (·.on)) pend, d ∉ looks ops.toList p.o := by
  intro p hp hl
  obtain ⟨h1, h2, h3⟩ := I.atp p (dropF_sub _ _ p hp)
  rcases hA.look i o d p.i p.o ho hd h1 hl with ⟨e, he, hb, hon⟩ | h4 | ⟨e, he, hb, hon⟩
  · exact hi (hon ▸ h3 e he hb)
  · exact hi (h4 ▸ h2)
  · exact dropF_not _ _ p hp (List.mem_map.2 ⟨e, List.mem_filter.2 ⟨he, hb⟩, hon⟩)
theorem Inv.notdst (hA : Apart ops) (I : Inv P G ops g0 h0 w0 done rest pend a h listed g ca w) {i : Nat} {o : Oper} (ho : ops[i]? = some o) (hi : i ∉ done) {d : Tmp} (hd : o.dst = some d) : ∀ p ∈ pend, p.o.dst ≠ some d := by
  intro p hp hl
  obtain ⟨h1, h2, h3⟩ := I.atp p hp
  have := hA.dst i o d p.i p.o ho hd h1 hl
  exact hi (this ▸ h2)

/-- A floating operation joins those that may have run. -/
theorem Inv.float (hA : Apart ops) {i : Nat} {r : List Nat} (I : Inv P G ops g0 h0 w0 done (i :: r) pend a h listed g ca w) {o : Oper} (ho : ops[i]? = some o) (hf : flOf ops.toList i o = true) {v : AV} {k : PK} {h' : H}
    (hs : Spec P G ops h0.next a h' ⟨i, o, v, k⟩) (hold : ∀ p ∈ pend, Spec P G ops h0.next a h' p) (R' : RS g h' w) (X' : Ext g0 h0 w0 g h' w)
    (hnew : ∀ id, idOf ⟨i, o, v, k⟩ = some id → g.φ id = none ∧ ∀ q ∈ pend, idOf q ≠ some id) :
    Inv P G ops g0 h0 w0 (i :: done) r (⟨i, o, v, k⟩ :: pend) (a.put o.dst v) h' listed g ca w := by
  obtain ⟨o', ho', hi, haf, _, hok⟩ := okFrom_head I.ok
  have : o' = o := by
    have h1 : ops.toList[i]? = some o := by simpa using ho
    rw [ho'] at h1; cases h1; rfl
  subst this
  have hnl : ∀ p ∈ (⟨i, o', v, k⟩ : PF) :: pend, ∀ t ∈ looks ops.toList p.o, eget a.tmps t = eget (a.put o'.dst v).tmps t := fun p hp t ht => by
    refine (eget_put_other fun hd => ?_).symm
    rcases List.mem_cons.1 hp with rfl | hp
    · obtain ⟨e, he, hb, hon⟩ := flOf_spec hf hd ho ht
      exact hi (hon ▸ haf e he hb)
    · exact I.notlook hf hi hd p hp ht
  refine ⟨I.size, hok, I.closed, R', X', by cases hd : o'.dst <;> exact I.df, (put_n ..).trans I.len, (put_n ..).symm ▸ I.hi, fun t ht => by rw [put_n] at ht; rw [put_hi _ _ _ _ ht]; exact I.tmhi t ht, fun t ht => ?_, fun j hj => ?_, fun j hj => I.rs j (by simp [hj]), ⟨fun e he hb => ?_, I.po⟩, fun p hp => ?_, fun p hp => (List.mem_cons.1 hp).elim (fun e => by rw [e]; exact hf) (I.fl p), fun p hp => ?_, fun p hp id hid hu => ?_, fun p hp q hq id hpi hqi => ?_, fun p hp d hd hlt => ?_⟩
  · have hne : o'.dst ≠ some t := ht ⟨i, o', v, k⟩ (by simp) (I.rs i (by simp))
    rw [eget_put_other hne]
    exact I.tm t fun p hp => ht p (by simp [hp])
  · rcases List.mem_cons.1 hj with rfl | hj
    · exact .inr ⟨_, List.mem_cons_self, rfl⟩
    · exact (I.dn j hj).imp id fun ⟨p, hp, he⟩ => ⟨p, by simp [hp], he⟩
  · exact I.dn _ (haf e he hb)
  · rcases List.mem_cons.1 hp with rfl | hp
    · exact ⟨ho, by simp, fun e he hb => by simp [haf e he hb]⟩
    · obtain ⟨h1, h2, h3⟩ := I.atp p hp
      exact ⟨h1, by simp [h2], fun e he hb => by simp [h3 e he hb]⟩
  · refine Spec.tmps (hnl p hp) ?_
    rcases List.mem_cons.1 hp with rfl | hp
    · exact hs
    · exact hold p hp
  · rcases List.mem_cons.1 hp with rfl | hp
    · exact (hnew id hid).1
    · exact I.gh p hp id hid hu
  · rcases List.mem_cons.1 hp with rfl | hp <;> rcases List.mem_cons.1 hq with rfl | hq
    · rfl
    · exact absurd hqi ((hnew id hpi).2 q hq)
    · exact absurd hpi ((hnew id hqi).2 p hp)
    · exact I.inj p hp q hq id hpi hqi
  · rw [put_n] at hlt
    rcases List.mem_cons.1 hp with rfl | hp
    · simp only at hd
      rw [hd]
      exact eget_eset_same _ _ _ (Nat.lt_of_lt_of_le hlt I.hi) hlt
    · rw [eget_put_other fun hd' => I.notdst hA ho hi hd' p hp hd]
      exact I.dv p hp d hd hlt

theorem closed_set (hc : Closed ops listed) {i : Nat} {o : Oper} (ho : ops[i]? = some o) (hr : ∀ e ∈ o.after.toList, bd e = true → listed.getD e.on false = true) : Closed ops (listed.setIfInBounds i true) := by
  intro j q hq hj e he hb
  refine getD_set_true ?_
  by_cases hij : i = j
  · subst hij
    rw [ho] at hq; cases hq
    exact hr e he hb
  · rw [getD_set_ne false hij] at hj
    exact hc j q hq hj e he hb
theorem put_tmps (ca : Act) (d : Option Tmp) (u : Value) : (ca.put d u).tmps.toList = match d with | some d => ca.tmps.toList.set d u | none => ca.tmps.toList := by
  cases d <;> simp [Act.put]
theorem put_size (ca : Act) (d : Option Tmp) (u : Value) : (ca.put d u).tmps.size = ca.tmps.size := by
  cases d <;> simp [Act.put]
theorem put_defers (ca : Act) (d : Option Tmp) (u : Value) : (ca.put d u).defers = ca.defers := by
  cases d <;> simp [Act.put]
theorem put_getD_same {ca : Act} {d : Tmp} {u : Value} (h : d < ca.tmps.size) : (ca.put (some d) u).tmps.toList.getD d Go.undef = u := by
  rw [put_tmps]; simp [h]
theorem put_getD_other {ca : Act} {d : Option Tmp} {u : Value} {t : Tmp} (h : d ≠ some t) : (ca.put d u).tmps.toList.getD t Go.undef = ca.tmps.toList.getD t Go.undef := by
  rw [put_tmps]
  cases d with
  | none => rfl
  | some d =>
    have : d ≠ t := fun e => h (by rw [e])
    simp [List.getElem?_set_ne this]
theorem put_getD_ge {ca : Act} {d : Option Tmp} {u : Value} {t : Tmp} (h : ca.tmps.size ≤ t) : (ca.put d u).tmps.toList.getD t Go.undef = Go.undef := by
  have : (ca.put d u).tmps.size ≤ t := by rw [put_size]; exact h
  simp [this]

/-- One that floated runs. -/
theorem Inv.exec (I : Inv P G ops g0 h0 w0 done rest pend a h listed g ca w) {p : PF} (hp : p ∈ pend) (hr : ∀ e ∈ p.o.after.toList, bd e = true → listed.getD e.on false = true)
    {g' : Gh} {w' : World} {u : Value} (x : g.le g') (R' : RS g' h w') (X' : Ext g0 h0 w0 g' h w') (hrel : Rel g' p.v u)
    (hφ : ∀ q ∈ pend, q.i ≠ p.i → ∀ id, idOf q = some id → listed.getD q.i false ≠ true → g'.φ id = none) :
    Inv P G ops g0 h0 w0 done rest pend a h (listed.setIfInBounds p.i true) g' (ca.put p.o.dst u) w' := by
  obtain ⟨hop, hpd, hpa⟩ := I.atp p hp
  have hlt : p.i < listed.size := by rw [I.size]; exact (Array.getElem?_eq_some_iff.1 hop).1
  refine ⟨by simp [I.size], I.ok, closed_set I.closed hop hr, R', X', by rw [put_defers]; exact I.df.mono x, by rw [put_size]; exact I.len, I.hi, fun t ht => (I.tmhi t ht).mono x, fun t ht => ?_, fun j hj => (I.dn j hj).imp getD_set_true id, fun j hj => ?_, I.po.mono fun i => getD_set_true, I.atp, I.fl, I.spec, fun q hq id hid hu => ?_, I.inj, I.dv⟩
  · by_cases hd : p.o.dst = some t
    · by_cases hl : t < a.tmps.n
      · rw [I.dv p hp t hd hl, hd, put_getD_same (I.len ▸ hl)]
        exact hrel
      · rw [put_getD_ge (by rw [← I.len]; exact Nat.le_of_not_lt hl)]
        exact (I.tmhi t (Nat.le_of_not_lt hl)).mono x
    · rw [put_getD_other hd]
      refine (I.tm t fun q hq hu => ?_).mono x
      by_cases hqi : q.i = p.i
      · obtain ⟨hoq, _, _⟩ := I.atp q hq
        rw [hqi, hop] at hoq
        have heq : p.o = q.o := Option.some.inj hoq
        rw [← heq]
        exact hd
      · exact ht q hq (by rw [getD_set_ne false (Ne.symm hqi)]; exact hu)
  · have : p.i ≠ j := fun e => okFrom_not _ _ I.ok j hj (e ▸ hpd)
    rw [getD_set_ne false this]; exact I.rs j hj
  · have hne : q.i ≠ p.i := fun e => hu (by rw [e]; exact getD_set_same hlt)
    rw [getD_set_ne false (Ne.symm hne)] at hu
    exact hφ q hq hne id hid hu

/-- The next one that does not float runs. -/
theorem Inv.effect (hA : Apart ops) {i : Nat} {r : List Nat} (I : Inv P G ops g0 h0 w0 done (i :: r) pend a h listed g ca w) {o : Oper} (ho : ops[i]? = some o) (hr : ∀ e ∈ o.after.toList, bd e = true → listed.getD e.on false = true)
    {a1 : AcA} {ca1 : Act} {g' : Gh} {h' : H} {w' : World} {v : AV} {u : Value} (ha : a1.tmps = a.tmps) (hca : ca1.tmps = ca.tmps) (hd1 : RelD g' a1.defs ca1.defers) (x1 : Ext g h w g' h' w') (x2 : RS g' h' w') (x3 : Rel g' v u)
    {pend' : List PF} (hp' : pend' = dropF ((o.after.toList.filter bd).map (·.on)) pend) (hst : ∀ p ∈ pend', Spec P G ops h0.next (a.put o.dst v) h' p) :
    Inv P G ops g0 h0 w0 (i :: done) r pend' (a1.put o.dst v) h' (listed.setIfInBounds i true) g' (ca1.put o.dst u) w' := by
  obtain ⟨o', ho', hi, haf, _, hok⟩ := okFrom_head I.ok
  have : o' = o := by
    have h1 : ops.toList[i]? = some o := by simpa using ho
    rw [ho'] at h1; cases h1; rfl
  subst this
  have hlt : i < listed.size := by rw [I.size]; exact (Array.getElem?_eq_some_iff.1 ho).1
  have hneed : ∀ j ∈ (o'.after.toList.filter bd).map (·.on), listed.getD j false = true := fun j hj => by
    obtain ⟨e, he, rfl⟩ := List.mem_map.1 hj
    obtain ⟨h1, h2⟩ := List.mem_filter.1 he
    exact hr e h1 h2
  have hops : ∀ p ∈ pend, ops[p.i]? = some p.o := fun p hp => (I.atp p hp).1
  have sub : ∀ p ∈ pend', p ∈ pend := fun p hp => dropF_sub _ _ p (hp' ▸ hp)
  have keep : ∀ p ∈ pend, listed.getD p.i false ≠ true → p ∈ pend' := fun p hp hu => by
    rcases dropF_keep I.closed pend _ hops hneed p hp with h1 | h1
    · exact hp' ▸ h1
    · exact absurd h1 hu
  have ne : ∀ p ∈ pend, i ≠ p.i := fun p hp e => hi (e ▸ (I.atp p hp).2.1)
  have htm : ∀ (d : Option Tmp), (a1.put d v).tmps = (a.put d v).tmps := fun d => by cases d <;> simp [AcA.put, ha]
  have hctm : ∀ (d : Option Tmp), (ca1.put d u).tmps.toList = (ca.put d u).tmps.toList := fun d => by rw [put_tmps, put_tmps, hca]
  refine ⟨by simp [I.size], hok, closed_set I.closed ho hr, x2, I.X.trans x1, ?_, ?_, ?_, fun t ht => ?_, fun t ht => ?_, fun j hj => ?_, fun j hj => ?_, ?_, fun p hp => ?_, fun p hp => I.fl p (sub p hp), fun p hp => ?_, fun p hp id hid hu => ?_, fun p hp q hq => I.inj p (sub p hp) q (sub q hq), fun p hp d hd hl => ?_⟩
  · rw [put_defers]
    have : (a1.put o'.dst v).defs = a1.defs := by cases o'.dst <;> rfl
    rw [this]; exact hd1
  · rw [put_n, ha, put_size, hca]; exact I.len
  · rw [put_n, ha]; exact I.hi
  · rw [put_n, ha] at ht
    rw [htm, put_hi _ _ _ _ ht]
    exact (I.tmhi t ht).mono x1.le
  · rw [htm, hctm]
    by_cases hd : o'.dst = some t
    · by_cases hl : t < a.tmps.n
      · rw [hd, put_getD_same (I.len ▸ hl)]
        have : eget (a.put (some t) v).tmps t = v := eget_eset_same _ _ _ (Nat.lt_of_lt_of_le hl I.hi) hl
        rw [this]; exact x3
      · rw [put_getD_ge (by rw [← I.len]; exact Nat.le_of_not_lt hl), put_hi _ _ _ _ (Nat.le_of_not_lt hl)]
        exact (I.tmhi t (Nat.le_of_not_lt hl)).mono x1.le
    · rw [eget_put_other hd, put_getD_other hd]
      refine (I.tm t fun q hq hu => ?_).mono x1.le
      exact ht q (keep q hq hu) (by rw [getD_set_ne false (ne q hq)]; exact hu)
  · rcases List.mem_cons.1 hj with rfl | hj
    · exact .inl (getD_set_same hlt)
    · rcases I.dn j hj with h1 | ⟨p, hp, rfl⟩
      · exact .inl (getD_set_true h1)
      · by_cases hu : listed.getD p.i false = true
        · exact .inl (getD_set_true hu)
        · exact .inr ⟨p, keep p hp hu, rfl⟩
  · have h1 := okFrom_not _ _ hok j hj
    have hne : i ≠ j := fun e => h1 (by simp [e])
    rw [getD_set_ne false hne]; exact I.rs j (by simp [hj])
  · rw [hp']
    exact (I.po.drop I.closed _ hops hneed).mono fun i => getD_set_true
  · obtain ⟨h1, h2, h3⟩ := I.atp p (sub p hp)
    exact ⟨h1, by simp [h2], fun e he hb => by simp [h3 e he hb]⟩
  · exact Spec.tmps (fun t _ => by rw [htm]) (hst p hp)
  · rw [getD_set_ne false (ne p (sub p hp))] at hu
    have h1 := I.gh p (sub p hp) id hid hu
    have hsp := I.spec p (sub p hp)
    have hlt : id < h.next := by
      unfold Spec at hsp
      unfold idOf at hid
      split at hid
      · rename_i id' y ao hk
        cases hid
        rw [hk] at hsp
        exact hsp.2.2.2.2.2
      · cases hid
    rw [x1.old id hlt]; exact h1
  · rw [htm] at hl ⊢
    rw [put_n] at hl
    rw [eget_put_other fun hd' => I.notdst hA ho hi hd' p (sub p hp) hd]
    exact I.dv p (sub p hp) d hd hl

/-- What this one looks at is as it should be. -/
theorem Inv.mask (I : Inv P G ops g0 h0 w0 done rest pend a h listed g ca w) {i : Nat} {o : Oper} (ho : ops[i]? = some o) (hr : ∀ e ∈ o.after.toList, bd e = true → listed.getD e.on false = true) :
    ∃ am : AcA, RA g am ca ∧ am.defs = a.defs ∧ ∀ t ∈ looks ops.toList o, eget a.tmps t = eget am.tmps t := by
  obtain ⟨l, h1, h2⟩ := Ab.mask (g := g) (fun t => ∀ p ∈ pend, listed.getD p.i false ≠ true → p.o.dst ≠ some t) a.tmps ca.tmps.toList (by simpa using I.len) I.hi I.tm I.tmhi
  refine ⟨⟨l, a.defs⟩, ⟨h1, I.df⟩, rfl, fun t ht => (h2 t fun p hp hu hd => ?_).symm⟩
  obtain ⟨hop, _, _⟩ := I.atp p hp
  obtain ⟨e, he, hb, hon⟩ := flOf_spec (I.fl p hp) hd ho ht
  exact hu (hon ▸ hr e he hb)
end
end
end
end Go.Ab
/-! Regions of any order: every order does what the plan does. -/
namespace Go.Ab
open Go
noncomputable section

section
variable {P : Program} {G : Nat → Option (List AV)} {S : Self} {rd : Bool} {r0 : Option Nat} {ops : Array Oper} {g0 : Gh} {h0 : H} {w0 : World}

theorem nok_wp {g : Gh} {ca : Act} {h h1 : H} {w : World} {o : Oper} (hnd : ∀ c, o.op ≠ .defer c) {x : AV} (hn : NOk P (execOp ca.eval o) g h w x h1) {next : Act → World → Prop} {Q : Exit → Act → World → Prop}
    (K : ∀ g' w' u, Ext g h w g' h1 w' → RS g' h1 w' → Rel g' x u → next (ca.put o.dst u) w') : o.wpIn (Fr r0) 0 P ca w next Q := by
  obtain ⟨u, w', g', h1, h2, h3, h4⟩ := hn
  refine ⟨about_fr, ?_⟩
  rw [Oper.semAt_eq _ _ _ hnd]
  rcases h1 with h1 | ⟨h1, rfl⟩
  · rw [h1]; exact K g' w' u h2 h3 h4
  · rw [h1]; exact K g' w' _ h2 h3 h4

theorem wpAnyIn_done' {md : Region.Mode} {Q : Exit → Act → World → Prop} {listed : Array Bool} {a : Act} {w : World} (hr : Region.ready md ops listed = []) (h : Q .normal a w) : ∀ fuel, wpAnyIn (Fr r0) 0 P md ops Q fuel listed a w
  | 0 => ⟨hr, h⟩
  | _ + 1 => ⟨fun _ => h, by rw [hr]; simp⟩
theorem rd_nd {T : TypeId → Option TI} {o : Op} (h : isRd T o = true) : ∀ c, o ≠ .defer c := fun c e => by subst e; cases h
theorem obj_nd {T : TypeId → Option TI} {e : Operand → AV} {o : Op} {y : (Nat → AV) × AO} (h : objA T e o = some y) : ∀ c, o ≠ .defer c := fun c e => by subst e; cases h

/-- All that float are let loose. -/
theorem settle (hA : Apart ops) {listed : Array Bool} {g : Gh} {ca : Act} {w : World} {e : ExA} {a' : AcA} {h' : H} : ∀ (rest done : List Nat) (pend : List PF) (a : AcA) (h : H),
    drawA (tiOf P) G S rd ops.toList rest a h pend = .ok e a' h' → Inv P G ops g0 h0 w0 done rest pend a h listed g ca w →
    ∃ rest' done' pend' a1 h1, drawA (tiOf P) G S rd ops.toList rest' a1 h1 pend' = .ok e a' h' ∧ Inv P G ops g0 h0 w0 done' rest' pend' a1 h1 listed g ca w ∧ ∀ i r o, rest' = i :: r → ops[i]? = some o → flOf ops.toList i o = false
  | [], done, pend, a, h, hb, I => ⟨[], done, pend, a, h, hb, I, fun _ _ _ h => by cases h⟩
  | i :: r, done, pend, a, h, hb, I => by
    have hb0 := hb
    unfold drawA at hb
    split at hb
    · cases hb
    · rename_i o ho
      have ho' : ops[i]? = some o := by simpa using ho
      split at hb
      · rename_i hfl
        split at hb
        · cases hb
        · rename_i hw
          refine settle hA r _ _ _ _ hb (I.float hA ho' hfl (k := .skip) ?_ I.spec I.R I.X ?_)
          · exact ⟨hw, rfl⟩
          · intro id hid; cases hid
        · rename_i hw
          split at hb
          · rename_i y ao hy
            split at hb
            · rename_i hroom hst
              have hlt : ∀ q ∈ pend, ∀ id, idOf q = some id → id < h.next := fun q hq id hid => by
                have hsp := I.spec q hq
                unfold Spec at hsp
                unfold idOf at hid
                split at hid
                · rename_i id' y ao hk
                  cases hid
                  rw [hk] at hsp
                  exact hsp.2.2.2.2.2
                · cases hid
              refine settle hA r _ _ _ _ hb (I.float hA ho' hfl (k := .obj h.next y ao) ?_ (fun p hp => ?_) (I.R.newU hroom) (I.X.trans (Ext.newU I.R)) ?_)
              · exact ⟨hw, hy, rfl, H.get_new_same h ao hroom, I.X.next, Nat.lt_succ_self _⟩
              · exact (I.spec p hp).still (Nat.le_succ _) (stills_mem hst p hp)
              · intro id hid
                cases hid
                exact ⟨(I.R.fresh _ (Nat.le_refl _)).1, fun q hq hid => Nat.lt_irrefl _ (hlt q hq _ hid)⟩
            · cases hb
          · split at hb
            · rename_i v h1 hrd hv
              have := rd_ok hrd hv
              subst this
              refine settle hA r _ _ _ _ hb (I.float hA ho' hfl (k := .read) ?_ I.spec I.R I.X ?_)
              · exact ⟨hw, hrd, hv⟩
              · intro id hid; cases hid
            · cases hb
      · rename_i hf
        exact ⟨i :: r, done, pend, a, h, hb0, I, fun _ _ _ he hq => by cases he; rw [ho'] at hq; cases hq; exact hf⟩

theorem getD_of_lt {listed : Array Bool} {i : Nat} (h : i < listed.size) : listed.getD i true = listed.getD i false := by
  simp [h]

theorem draw_main (hA : Apart ops) (hN : NoOwn P) (hS : Sound P G S) (hr0 : r0.isSome = rd) (hG0 : GOk g0 G) {e : ExA} {a' : AcA} {h' : H} {Q : Exit → Act → World → Prop}
    (K : ∀ g' ce ca' w', Ext g0 h0 w0 g' h' w' → RS g' h' w' → RA g' a' ca' → RelE g' e ce → Q ce ca' w') : ∀ (fuel : Nat) (rest done : List Nat) (pend : List PF) (a : AcA) (h : H) (listed : Array Bool) (g : Gh) (ca : Act) (w : World) (rem : List Nat),
    drawA (tiOf P) G S rd ops.toList rest a h pend = .ok e a' h' → Inv P G ops g0 h0 w0 done rest pend a h listed g ca w → (∀ i, i < ops.size → listed.getD i false ≠ true → i ∈ rem) → rem.length ≤ fuel → wpAnyIn (Fr r0) 0 P .any ops Q fuel listed ca w := by
  intro fuel
  induction fuel with
  | zero =>
    intro rest done pend a h listed g ca w rem hb I hrem hlen
    have hall : ∀ i, i < ops.size → listed.getD i false = true := fun i hi => Classical.byContradiction fun hn => by
      have := hrem i hi hn
      rw [List.eq_nil_of_length_eq_zero (Nat.le_zero.1 hlen)] at this; cases this
    have hready : Region.ready .any ops listed = [] := by
      refine List.eq_nil_iff_forall_not_mem.2 fun j hj => ?_
      obtain ⟨h1, o, ho, _⟩ := mem_ready.1 hj
      have hlt := (Array.getElem?_eq_some_iff.1 ho).1
      rw [getD_of_lt (I.size ▸ hlt), hall j hlt] at h1
      cases h1
    obtain ⟨rest', done', pend', a1, h1, hb', I', hf⟩ := settle hA rest done pend a h hb I
    cases rest' with
    | cons i r =>
      obtain ⟨o, ho, _⟩ := okFrom_head I'.ok
      exact absurd (hall i (by have := (List.getElem?_eq_some_iff.1 ho).1; simpa using this)) (I'.rs i (by simp))
    | nil =>
      cases hb'
      refine wpAnyIn_done' hready ?_ 0
      refine K g .normal ca w I'.X I'.R ⟨⟨by simpa using I'.len, I'.hi, fun t => I'.tm t fun p hp hu => absurd (hall p.i ?_) hu⟩, I'.df⟩ .normal
      exact (Array.getElem?_eq_some_iff.1 (I'.atp p hp).1).1
  | succ fuel ih =>
    intro rest done pend a h listed g ca w rem hb I hrem hlen
    obtain ⟨rest', done', pend', a1, h1, hb', I', hf⟩ := settle hA rest done pend a h hb I
    clear hb I
    have hG := hG0.mono I'.X.le
    by_cases hall : ∀ i, i < ops.size → listed.getD i false = true
    · have hready : Region.ready .any ops listed = [] := by
        refine List.eq_nil_iff_forall_not_mem.2 fun j hj => ?_
        obtain ⟨h1, o, ho, _⟩ := mem_ready.1 hj
        have hlt := (Array.getElem?_eq_some_iff.1 ho).1
        rw [getD_of_lt (I'.size ▸ hlt), hall j hlt] at h1
        cases h1
      cases rest' with
      | cons i r =>
        obtain ⟨o, ho, _⟩ := okFrom_head I'.ok
        exact absurd (hall i (by have := (List.getElem?_eq_some_iff.1 ho).1; simpa using this)) (I'.rs i (by simp))
      | nil =>
        cases hb'
        refine wpAnyIn_done' hready ?_ _
        refine K g .normal ca w I'.X I'.R ⟨⟨by simpa using I'.len, I'.hi, fun t => I'.tm t fun p hp hu => absurd (hall p.i ?_) hu⟩, I'.df⟩ .normal
        exact (Array.getElem?_eq_some_iff.1 (I'.atp p hp).1).1
    · -- somebody has not run yet
      have shrink : ∀ i, i < ops.size → listed.getD i false ≠ true → ∃ rem' : List Nat, (∀ j, j < ops.size → (listed.setIfInBounds i true).getD j false ≠ true → j ∈ rem') ∧ rem'.length ≤ fuel := fun i hi hu => by
        refine ⟨rem.filter (fun j => decide (j ≠ i)), fun j hj hju => ?_, ?_⟩
        · have hne : j ≠ i := fun e => hju (by rw [e]; exact getD_set_same (I'.size ▸ hi))
          rw [getD_set_ne false (Ne.symm hne)] at hju
          exact List.mem_filter.2 ⟨hrem j hj hju, by simpa using hne⟩
        · have : (rem.filter (fun j => decide (j ≠ i))).length < rem.length := by
            rw [List.length_filter_lt_length_iff_exists]
            exact ⟨i, hrem i hi hu, by simp⟩
          omega
      have hready : Region.ready .any ops listed ≠ [] := by
        intro hnil
        have mem : ∀ (i : Nat) (o : Oper), ops[i]? = some o → listed.getD i false ≠ true → (∀ e ∈ o.after.toList, bd e = true → listed.getD e.on false = true) → False := fun i o ho hu hr => by
          have hlt := (Array.getElem?_eq_some_iff.1 ho).1
          have : i ∈ Region.ready .any ops listed := mem_ready.2 ⟨by rw [getD_of_lt (I'.size ▸ hlt)]; simpa using hu, o, ho, fun e he hb => hr e (by simpa using he) (by rw [bd_eq]; exact hb)⟩
          rw [hnil] at this; cases this
        by_cases hp : ∃ p ∈ pend', listed.getD p.i false ≠ true
        · obtain ⟨p, hp, hu, hr⟩ := I'.po.first hp
          exact mem p.i p.o (I'.atp p hp).1 hu hr
        · have hdone : ∀ i ∈ done', listed.getD i false = true := fun i hi => (I'.dn i hi).elim id fun ⟨p, hp', he⟩ => Classical.byContradiction fun hn => hp ⟨p, hp', he ▸ hn⟩
          cases rest' with
          | nil =>
            refine hall fun i hi => ?_
            rcases okFrom_cover _ _ I'.ok i (by simpa using hi) with h1 | h1
            · exact hdone i h1
            · cases h1
          | cons i r =>
            obtain ⟨o, ho, _, haf, _⟩ := okFrom_head I'.ok
            exact mem i o (by simpa using ho) (I'.rs i (by simp)) fun e he hb => hdone _ (haf e he hb)
      refine ⟨fun h => absurd h hready, fun j hj => ?_⟩
      obtain ⟨hju, o, ho, hra⟩ := mem_ready.1 hj
      have hlt := (Array.getElem?_eq_some_iff.1 ho).1
      have hu : listed.getD j false ≠ true := by
        rw [getD_of_lt (I'.size ▸ hlt)] at hju; rw [hju]; simp
      have hr : ∀ e ∈ o.after.toList, bd e = true → listed.getD e.on false = true := fun e he hb => hra e (by simpa using he) (by rw [← bd_eq]; exact hb)
      obtain ⟨rem', hrem', hlen'⟩ := shrink j hlt hu
      obtain ⟨am, Am, hdefs, hlook⟩ := I'.mask ho hr
      have he := ev_congr G hlook
      have hev := ev_ok hG Am
      -- one that floats
      have fl : ∀ p ∈ pend', p.i = j → wpOpIn (Fr r0) 0 P ops Q j (wpAnyIn (Fr r0) 0 P .any ops Q fuel (listed.setIfInBounds j true)) ca w := fun p hp hpj => by
        subst hpj
        have hpo : p.o = o := by have h1 := (I'.atp p hp).1; rw [ho] at h1; exact (Option.some.inj h1).symm
        have hsp := I'.spec p hp
        unfold wpOpIn
        rw [ho]
        simp only
        unfold Spec at hsp
        split at hsp
        · obtain ⟨hw, hv⟩ := hsp
          rw [hpo, wanted_congr hlook] at hw
          rw [wanted_ok Am hw, if_neg (by simp)]
          refine ⟨about_fr, ?_⟩
          have := I'.exec hp (hpo ▸ hr) (u := Go.undef) (.refl g) I'.R I'.X (by rw [hv]; exact Rel.undef g) (fun q hq _ id hid hu => I'.gh q hq id hid hu)
          rw [hpo] at this
          exact ih rest' done' pend' a1 h1 _ g _ w rem' hb' this hrem' hlen'
        · obtain ⟨hw, hrd, hop⟩ := hsp
          rw [hpo] at hop
          rw [hpo, wanted_congr hlook] at hw
          rw [wanted_ok Am hw, if_pos rfl]
          rw [opA_congr he] at hop
          refine nok_wp (rd_nd (hpo ▸ hrd)) (op_ok (P := P) I'.R hev hop) fun g' w' u x1 x2 x3 => ?_
          have := I'.exec hp (hpo ▸ hr) (u := u) x1.le x2 (I'.X.trans x1) x3 (fun q hq _ id hid hu => by
            have hlt : id < h1.next := by
              have hsp := I'.spec q hq
              unfold Spec at hsp
              unfold idOf at hid
              split at hid
              · rename_i id' y ao hk
                cases hid
                rw [hk] at hsp
                exact hsp.2.2.2.2.2
              · cases hid
            rw [x1.old id hlt]; exact I'.gh q hq id hid hu)
          rw [hpo] at this
          exact ih rest' done' pend' a1 h1 _ g' _ w' rem' hb' this hrem' hlen'
        · rename_i id y ao hk
          obtain ⟨hw, hoy, hv, hid, hlo, hhi⟩ := hsp
          rw [hpo] at hoy
          rw [hpo, wanted_congr hlook] at hw
          rw [wanted_ok Am hw, if_pos rfl]
          rw [objA_congr he] at hoy
          have hidp : idOf p = some id := by unfold idOf; rw [hk]
          have hφ := I'.gh p hp id hidp hu
          obtain ⟨u, w', c, q1, q2, q3, q4, q5, q6, q7, q8⟩ := obj_ok (P := P) I'.R hev hoy hid hφ
          refine ⟨about_fr, ?_⟩
          rw [Oper.semAt_eq _ _ _ (obj_nd hoy)]
          rw [q1]
          have := I'.exec hp (hpo ▸ hr) (u := u) (Gh.le_add hφ) q2 (I'.X.real hφ hlo q4 q5 q6 q7 q8) (by rw [hv]; exact q3) (fun q hq hne id' hid' hu' => by
            have h2 := I'.gh q hq id' hid' hu'
            have h3 : id' ≠ id := fun e => hne (I'.inj q hq p hp id (e ▸ hid') hidp)
            simp only [Gh.add]; rw [if_neg h3]; exact h2)
          rw [hpo] at this
          exact ih rest' done' pend' a1 h1 _ _ _ w' rem' hb' this hrem' hlen'
      rcases okFrom_cover _ _ I'.ok j (by simpa using hlt) with hjd | hjr
      · rcases I'.dn j hjd with h2 | ⟨p, hp, hpj⟩
        · exact absurd h2 hu
        · exact fl p hp hpj
      · cases rest' with
        | nil => cases hjr
        | cons i r =>
          obtain ⟨oi, hoi, _, _, hblk, _⟩ := okFrom_head I'.ok
          have hfi := hf i r oi rfl (by simpa using hoi)
          rcases List.mem_cons.1 hjr with hji | hjr
          · subst hji
            have hoo : oi = o := by have : ops.toList[j]? = some o := by simpa using ho
                                    rw [hoi] at this; exact Option.some.inj this
            subst hoo
            unfold drawA at hb'
            rw [hoi] at hb'
            simp only [hfi] at hb'
            have sub : ∀ p ∈ dropF ((oi.after.toList.filter bd).map (·.on)) pend', p ∈ pend' := fun p hp => dropF_sub _ _ p hp
            have tmeq : ∀ t ∈ looks ops.toList oi, eget a1.tmps t = eget am.tmps t := hlook
            have hj' : j ∉ done' := okFrom_not (j :: r) done' I'.ok j (by simp)
            have skip : ∀ p ∈ dropF ((oi.after.toList.filter bd).map (·.on)) pend', Spec P G ops h0.next (a1.put oi.dst undefA) h1 p := fun p hp =>
              (I'.spec p (sub p hp)).tmps fun t ht => (eget_put_other fun hd => I'.notlook' hA ho hj' hd p hp ht).symm
            unfold wpOpIn
            rw [ho]
            simp only
            split at hb'
            · cases hb'
            · rename_i hw
              rw [wanted_congr hlook] at hw
              rw [wanted_ok Am hw, if_neg (by simp)]
              refine ⟨about_fr, ?_⟩
              refine ih r (j :: done') _ _ _ _ g _ w rem' hb' ?_ hrem' hlen'
              exact I'.effect hA ho hr (a1 := a1) (ca1 := ca) rfl rfl I'.df (.refl g h1 w) I'.R (Rel.undef g) rfl skip
            · rename_i hw
              rw [wanted_congr hlook] at hw
              rw [wanted_ok Am hw, if_pos rfl]
              have hcon : opR (tiOf P) G S rd a1 h1 oi = opR (tiOf P) G S rd am h1 oi := opR_congr hlook
              split at hb'
              · rename_i v h2 hv
                rw [hcon] at hv
                split at hb'
                · rename_i hst
                  refine opR_val hN hS.f hS.y Am I'.R hG hv fun g' w' u x1 x2 x3 => ?_
                  refine ih r (j :: done') _ _ _ _ g' _ w' rem' hb' ?_ hrem' hlen'
                  refine I'.effect hA ho hr (a1 := a1) (ca1 := ca) rfl rfl (I'.df.mono x1.le) x1 x2 x3 rfl fun p hp => ?_
                  exact ((I'.spec p (sub p hp)).tmps fun t ht => (eget_put_other fun hd => I'.notlook' hA ho hj' hd p hp ht).symm).still x1.next (stills_mem hst p hp)
                · cases hb'
              · rename_i v h2 hv
                rw [hcon] at hv
                split at hb'
                · rename_i hnil
                  cases hb'
                  have hneed : ∀ j ∈ (oi.after.toList.filter bd).map (·.on), listed.getD j false = true := fun j hj => by
                    obtain ⟨e, he, rfl⟩ := List.mem_map.1 hj
                    obtain ⟨h1, h2⟩ := List.mem_filter.1 he
                    exact hr e h1 h2
                  have A1 : RA g a' ca := ⟨⟨by simpa using I'.len, I'.hi, fun t => I'.tm t fun p hp hu => by
                    rcases dropF_keep I'.closed pend' _ (fun p hp => (I'.atp p hp).1) hneed p hp with h3 | h3
                    · rw [hnil] at h3; cases h3
                    · exact absurd h3 hu⟩, I'.df⟩
                  rw [← hcon] at hv
                  exact opR_panic hN hS.f A1 I'.R hG hv fun g' w' u x1 x2 x3 => K g' _ ca w' (I'.X.trans x1) x2 (A1.mono x1.le) (.panic _ _ x3)
                · cases hb'
              · rename_i d hv
                rw [hcon] at hv
                refine opR_defer hr0 Am hG hv (fun d' hd => ?_)
                rw [hdefs] at hd
                refine ih r (j :: done') _ _ _ _ g _ w rem' hb' ?_ hrem' hlen'
                refine I'.effect hA ho hr (a1 := { a1 with defs := d :: a1.defs }) (ca1 := { ca with defers := d' :: ca.defers }) rfl rfl hd (.refl g h1 w) I'.R (Rel.undef g) rfl skip
              · cases hb'
          · obtain ⟨e, he, hb1, hb2⟩ := hblk hfi j hjr o (by simpa using ho)
            exfalso
            have h3 := hr e he hb1
            by_cases hs : e.on < ops.size
            · rcases okFrom_cover _ _ I'.ok e.on (by simpa using hs) with h4 | h4
              · exact hb2 h4
              · exact I'.rs _ h4 h3
            · have : listed.size ≤ e.on := by rw [I'.size]; omega
              simp [this] at h3

theorem draw_ok (hm : P.follows .mixedOrders = true) (hN : NoOwn P) : DrawSound P G (fun S rd ops a h => draw (tiOf P) G S rd ops a h) := by
  intro S hS rd id ops a h e a' h' hb r0 hr0 g ca w A R hG Q K
  simp only [draw] at hb
  split at hb
  · rename_i l hl
    unfold thePlan at hl
    simp only at hl
    split at hl <;> cases hl
    rename_i hok hap
    refine wpIn_region_any hm ?_
    have R' : RS g h { w with drawn := w.drawn + 1 } := R.of_heap rfl
    refine draw_main (g0 := g) (h0 := h) (w0 := { w with drawn := w.drawn + 1 }) (apart_of hap) hN hS hr0 hG (e := e) (a' := a') (h' := h') (fun g' ce ca' w' x1 x2 x3 x4 => K g' ce ca' w' ?_ x2 x3 x4) ops.size _ [] [] a h _ g ca _ (List.range ops.size) hb ?_ (fun i hi _ => List.mem_range.2 hi) (by simp)
    · exact ⟨x1.le, x1.old, x1.next, x1.fr, x1.own, x1.size, x1.os, x1.tape, x1.output⟩
    · have hf : ∀ i, (Array.replicate ops.size false).getD i false = false := fun i => by
        by_cases hi : i < ops.size <;> simp [hi]
      have hhi : ∀ t, a.tmps.n ≤ t → Rel g (eget a.tmps t) Go.undef := fun t ht => by
        have h1 := A.tm.at_ t
        have h2 : ca.tmps.toList.getD t Go.undef = Go.undef := by
          rw [List.getD_eq_getElem?_getD, List.getElem?_eq_none (by rw [← A.tm.n]; exact ht)]; rfl
        rw [h2] at h1; exact h1
      refine ⟨by simp, hok, fun i o _ h1 => ?_, R', .refl .., A.df, by simpa using A.tm.n, A.tm.hi, hhi, fun t _ => A.tm.at_ t, fun i hi => absurd hi (by simp), fun i _ => (by rw [hf]; simp), trivial, fun p hp => absurd hp (by simp), fun p hp => absurd hp (by simp), fun p hp => absurd hp (by simp), fun p hp => absurd hp (by simp), fun p hp => absurd hp (by simp), fun p hp => absurd hp (by simp)⟩
      rw [hf] at h1; cases h1
  · cases hb
end
end
end Go.Ab
