/- Loops and scopes, round by round. -/
import Derived.Test.YtgbdkammehhchaaDoorAbDraw
import Derived.Scope
set_option linter.unusedVariables false
namespace Go.Ab
section
variable {P : Program} {n : Nat} {Q : Ex → Env → Heap → Prop} {A : Env} {H : Heap}

theorem sR_scope {b : Frame} {a : Act} {k : List Item} {cs : List Frame} {w : World} {c : Code} : step P (lone (b.atR a (.code (.scope c) :: k)) cs w) = .next (lone (b.atR a (.code c :: .inScope c :: k)) cs w) :=
  step_lone_go (by simp [stepG, stepG.exec, Frame.atR])
theorem sR_inScope {b : Frame} {a : Act} {k : List Item} {cs : List Frame} {w : World} {c : Code} : step P (lone (b.atR a (.inScope c :: k)) cs w) = .next (lone (b.atR a k) cs w) :=
  step_lone_go (by simp [stepG, stepG.exec, Frame.atR])

/-- A loop's round, and all that follow. -/
noncomputable def LoopWp (P : Program) (n : Nat) (c : Code) (Q : Ex → Env → Heap → Prop) (A : Env) (H : Heap) : Prop :=
  ∀ z ρ w a, Sim P ρ H w → EnvFr z ρ H w n A a → ∀ (b : Frame) (k : List Item) (cs : List Frame), b.roundOf = (fen z).round → (fen z).fn b.fn → (fen z).room (cs.length + 1 + 0) →
    ∃ e a' w', Lift P n z ρ H w Q e a' w' ∧ ArrivesIn (Machine.fenced P (fen z)) P (lone (b.atR a (.code c :: .inLoop c :: k)) cs w) b k cs e a' w'

theorem awp_of_loop {c : Code} (h : LoopWp P n c Q A H) : AWp P n (.loop c) Q A H := fun z ρ w a hs he b k cs hro hb hrm => by
  obtain ⟨e, a', w', hl, harr⟩ := h z ρ w a hs he b k cs hro hb hrm
  exact ⟨e, a', w', hl, .of_steps (.one (fenced_calm hb hrm rfl) stepR_loop) harr⟩

theorem loop_step {c : Code} (h : AWp P n c (Then (LoopWp P n c Q) Q) A H) : LoopWp P n c Q A H := fun z ρ w a hs he b k cs hro hb hrm => by
  obtain ⟨e, a2, w2, hl, harr⟩ := h z ρ w a hs he b (.inLoop c :: k) cs hro hb hrm
  obtain ⟨e', ρ2, A2, H2, hq, hst2, hs2, he2, hr⟩ := hl
  cases e' <;> cases e <;> simp only [ExRel] at hr
  case normal.normal =>
    obtain ⟨e3, a3, w3, hl3, harr3⟩ := hq z ρ2 w2 a2 hs2 he2 b k cs hro hb hrm
    exact ⟨e3, a3, w3, Lift.weaken hst2 hl3, .of_steps (StepsIn.trans harr (.one (fenced_calm hb hrm rfl) stepR_inLoop)) harr3⟩
  all_goals exact ⟨_, a2, w2, ⟨_, ρ2, A2, H2, hq, hst2, hs2, he2, by first | trivial | exact hr⟩, .pass (x := .inLoop c) rfl (fun _ _ => .inl (by simp)) harr⟩

/-- Code that runs inside a scope. -/
noncomputable def ScopeWp (P : Program) (n : Nat) (body c : Code) (Q : Ex → Env → Heap → Prop) (A : Env) (H : Heap) : Prop :=
  ∀ z ρ w a, Sim P ρ H w → EnvFr z ρ H w n A a → ∀ (b : Frame) (k : List Item) (cs : List Frame), b.roundOf = (fen z).round → (fen z).fn b.fn → (fen z).room (cs.length + 1 + 0) →
    ∃ e a' w', Lift P n z ρ H w Q e a' w' ∧ ArrivesIn (Machine.fenced P (fen z)) P (lone (b.atR a (.code c :: .inScope body :: k)) cs w) b k cs e a' w'

theorem awp_of_scope {c : Code} (h : ScopeWp P n c c Q A H) : AWp P n (.scope c) Q A H := fun z ρ w a hs he b k cs hro hb hrm => by
  obtain ⟨e, a', w', hl, harr⟩ := h z ρ w a hs he b k cs hro hb hrm
  exact ⟨e, a', w', hl, .of_steps (.one (fenced_calm hb hrm rfl) sR_scope) harr⟩

/-- A jump inside a scope goes on behind its label. -/
noncomputable def Jump (P : Program) (n : Nat) (body : Code) (Q : Ex → Env → Heap → Prop) : Ex → Env → Heap → Prop
  | .goto l, A, H => match findLabel body l with
    | some rest => ScopeWp P n body rest Q A H
    | none => Q (.goto l) A H
  | e, A, H => Q e A H

theorem scope_step {body c : Code} (h : AWp P n c (Jump P n body Q) A H) : ScopeWp P n body c Q A H := fun z ρ w a hs he b k cs hro hb hrm => by
  obtain ⟨e, a2, w2, hl, harr⟩ := h z ρ w a hs he b (.inScope body :: k) cs hro hb hrm
  obtain ⟨e', ρ2, A2, H2, hq, hst2, hs2, he2, hr⟩ := hl
  cases e' <;> cases e <;> simp only [ExRel] at hr
  case normal.normal => exact ⟨.normal, a2, w2, ⟨.normal, ρ2, A2, H2, hq, hst2, hs2, he2, trivial⟩, StepsIn.trans harr (.one (fenced_calm hb hrm rfl) sR_inScope)⟩
  case exit.exit i j =>
    subst hr
    exact ⟨.exit i, a2, w2, ⟨.exit i, ρ2, A2, H2, hq, hst2, hs2, he2, rfl⟩, fun k' hk => harr.1 k' (by simp [exitTo, hk]), fun hh hk => harr.2 hh (by simp [exitTo, hk])⟩
  case goto.goto i j =>
    subst hr
    simp only [Jump] at hq
    cases hf : findLabel body i with
    | none =>
      rw [hf] at hq
      exact ⟨.goto i, a2, w2, ⟨.goto i, ρ2, A2, H2, hq, hst2, hs2, he2, rfl⟩, fun k' hk => harr.1 k' (by simp [gotoIn, hf, hk]), fun hh hk => harr.2 hh (by simp [gotoIn, hf, hk])⟩
    | some rest =>
      rw [hf] at hq
      obtain ⟨e3, a3, w3, hl3, harr3⟩ := hq z ρ2 w2 a2 hs2 he2 b k cs hro hb hrm
      exact ⟨e3, a3, w3, Lift.weaken hst2 hl3, .of_steps (harr.1 _ (by simp [gotoIn, hf])) harr3⟩
  case ret.ret => exact ⟨.ret, a2, w2, ⟨.ret, ρ2, A2, H2, hq, hst2, hs2, he2, trivial⟩, harr⟩
  case panic.panic v ch => exact ⟨.panic ch, a2, w2, ⟨.panic v, ρ2, A2, H2, hq, hst2, hs2, he2, hr⟩, harr⟩
end
end Go.Ab
