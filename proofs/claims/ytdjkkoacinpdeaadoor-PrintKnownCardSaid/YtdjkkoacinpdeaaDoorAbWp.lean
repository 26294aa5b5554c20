/- The abstract wp: rules for code, over any program. -/
import Derived.Test.YtdjkkoacinpdeaaDoorAbBase
import Derived.OrdersIn
import Derived.TacticsIn
import Derived.RangeFuncRecord
set_option linter.unusedVariables false
namespace Go.Ab

/-- The temporaries, abstractly. -/
abbrev Env := Nat → Value
def upd (A : Env) (d : Nat) (v : Value) : Env := fun t => bif Nat.beq t d then v else A t
def updO (A : Env) (d : Option Nat) (v : Value) : Env := match d with | some d => upd A d v | none => A
@[simp] theorem upd_same (A : Env) (d : Nat) (v : Value) : upd A d v d = v := by simp [upd]
theorem upd_ne (A : Env) {d t : Nat} (v : Value) (h : t ≠ d) : upd A d v t = A t := by simp [upd, nbeq, h]
theorem upd_self (A : Env) (d : Nat) : upd A d (A d) = A := by
  funext t; by_cases h : t = d
  · subst h; simp
  · exact upd_ne A _ h

def ev (A : Env) : Operand → Value
  | .tmp t => A t
  | .const v => v
  | .global g => .pointer (some ⟨g, 0, none⟩)
  | .func f => .func (.func f) #[] #[]

inductive Ex where
  | normal
  | exit (id : Nat)
  | goto (l : Nat)
  | ret
  | panic (v : Value)

def ExRel (ρ : Ren) : Ex → Exit → Prop
  | .normal, .normal => True
  | .exit i, .exit j => i = j
  | .goto i, .goto j => i = j
  | .ret, .ret => True
  | .panic v, .panic ch => ∃ v', V ρ v v' ∧ ch = [{ v := v', recovered := false }]
  | _, _ => False

structure EnvRel (ρ : Ren) (n : Nat) (A : Env) (a : Act) : Prop where
  size : a.tmps.size = n
  tmps : ∀ t, t < n → V ρ (A t) (a.tmps.getD t undef)

theorem EnvRel.mono {ρ ρ' : Ren} {n : Nat} {A : Env} {a : Act} (hs : Sub ρ ρ') (h : EnvRel ρ n A a) : EnvRel ρ' n A a :=
  ⟨h.size, fun t ht => (h.tmps t ht).mono hs⟩

theorem EnvRel.put {ρ : Ren} {n : Nat} {A : Env} {a : Act} {d : Nat} {v v' : Value} (h : EnvRel ρ n A a) (hd : d < n) (hv : V ρ v v') : EnvRel ρ n (upd A d v) (a.put (some d) v') := by
  refine ⟨by simp [Act.put, h.size], fun t ht => ?_⟩
  by_cases e : t = d
  · subst e
    simp only [upd_same, Act.put]
    rw [Array.getD_eq_getD_getElem?, Array.getElem?_setIfInBounds_self_of_lt (by rw [h.size]; exact hd)]
    exact hv
  · rw [upd_ne A v e]
    have := h.tmps t ht
    simp only [Act.put]
    rw [Array.getD_eq_getD_getElem?, Array.getElem?_setIfInBounds_ne (by omega), ← Array.getD_eq_getD_getElem?]
    exact this

def dstOk (n : Nat) : Option Nat → Bool
  | some d => Nat.blt d n
  | none => true

theorem EnvRel.putO {ρ : Ren} {n : Nat} {A : Env} {a : Act} {d : Option Nat} {v v' : Value} (h : EnvRel ρ n A a) (hd : dstOk n d = true) (hv : V ρ v v') : EnvRel ρ n (updO A d v) (a.put d v') := by
  cases d with
  | none => exact h
  | some d => exact h.put (by simpa [dstOk] using hd) hv

/-- Values without an address, at most one step deep. -/
def closedV : Value → Bool
  | .agg xs => xs.all plain
  | .tuple xs => xs.all plain
  | .iface _ v => plain v
  | v => plain v

theorem V.closed {ρ : Ren} {v : Value} (h : closedV v = true) : V ρ v v := by
  have arr : ∀ xs : Array Value, xs.all plain = true → ∀ (j : Nat) x x', xs[j]? = some x → xs[j]? = some x' → V ρ x x' := fun xs hx j x x' h1 h2 => by
    rw [h1] at h2; cases h2
    exact .same x (Array.all_eq_true_iff_forall_mem.1 hx x (Array.mem_of_getElem? h1))
  cases v <;> first
    | exact .same _ h
    | exact .agg _ _ rfl (arr _ h)
    | exact .tuple _ _ rfl (arr _ h)
    | exact .iface _ _ _ (.same _ h)

/-- Operands that hold no address, or that the environment holds. -/
def okArg (P : Program) (n : Nat) : Operand → Bool
  | .tmp t => Nat.blt t n
  | .const v => closedV v
  | .global g => Nat.blt g P.globals.size
  | .func _ => true

theorem EnvRel.eval {P : Program} {ρ : Ren} {H : Heap} {w : World} {n : Nat} {A : Env} {a : Act} (hs : Sim P ρ H w) (h : EnvRel ρ n A a) {x : Operand} (hx : okArg P n x = true) : V ρ (ev A x) (a.eval x) := by
  cases x with
  | tmp t => exact h.tmps t (by simpa [okArg] using hx)
  | const v => exact .closed hx
  | global g =>
    obtain ⟨i, hi, e⟩ := hs.glob g (by simpa [okArg] using hx)
    have := V.ptr (ρ := ρ) g 0 i hi
    rw [e] at this
    exact this
  | func f => exact .func _ _ _ _ _ rfl rfl rfl (fun j x x' h => by simp at h) (fun j x x' h => by simp at h)

/-- Which loop's round a frame is of; how great the heap was where it began. -/
structure Rd where
  r : Option Nat
  b : Nat

/-- A fence that lets all in, for frames of such a round. -/
def fen (z : Rd) : Fence := { Fence.wide with round := z.r }
theorem fen_fn (z : Rd) (f : FuncId) : (fen z).fn f := trivial
theorem fen_room (z : Rd) (m : Nat) : (fen z).room m := fun d h => by simp [fen, Fence.wide] at h

/-- The mark of a loop over a function. -/
def mark (d : Nat) : Deferred := { target := .collected d, args := #[] }

/-- What a frame has besides its temporaries. -/
structure Fr (z : Rd) (ρ : Ren) (H : Heap) (w : World) (a : Act) : Prop where
  marks : ∃ ds : List Nat, a.defers = ds.map mark ∧ ds.Nodup ∧ ∀ d ∈ ds, z.b ≤ d ∧ Hid ρ H w d (.deferred (some []))
  round : ∀ l, z.r = some l → a.defers = [] ∧ ∃ rc, Hid ρ H w l (.loop rc)
  base : z.b ≤ w.heap.size

theorem Fr.step {z : Rd} {ρ ρ' : Ren} {H H' : Heap} {w w' : World} {a a' : Act} (h : Fr z ρ H w a) (hst : St ρ H w ρ' H' w') (ha : a'.defers = a.defers) : Fr z ρ' H' w' a' := by
  obtain ⟨ds, h1, h2, h3⟩ := h.marks
  exact ⟨⟨ds, ha.trans h1, h2, fun d hd => ⟨(h3 d hd).1, (h3 d hd).2.step hst⟩⟩, fun l hl => by
    obtain ⟨e, rc, hr⟩ := h.round l hl
    exact ⟨ha.trans e, rc, hr.step hst⟩, Nat.le_trans h.base hst.size⟩

structure EnvFr (z : Rd) (ρ : Ren) (H : Heap) (w : World) (n : Nat) (A : Env) (a : Act) : Prop extends EnvRel ρ n A a where
  fr : Fr z ρ H w a

theorem EnvFr.step {z : Rd} {ρ ρ' : Ren} {H H' : Heap} {w w' : World} {n : Nat} {A : Env} {a : Act} (h : EnvFr z ρ H w n A a) (hst : St ρ H w ρ' H' w') : EnvFr z ρ' H' w' n A a :=
  ⟨h.toEnvRel.mono hst.mono, h.fr.step hst rfl⟩
theorem put_defers (a : Act) (d : Option Nat) (v : Value) : (a.put d v).defers = a.defers := by cases d <;> rfl
theorem EnvFr.putO {z : Rd} {ρ : Ren} {H : Heap} {w : World} {n : Nat} {A : Env} {a : Act} {d : Option Nat} {v v' : Value} (h : EnvFr z ρ H w n A a) (hd : dstOk n d = true) (hv : V ρ v v') : EnvFr z ρ H w n (updO A d v) (a.put d v') :=
  ⟨h.toEnvRel.putO hd hv, h.fr.step (.refl _ _ _) (put_defers a d v')⟩

section
variable (P : Program) (n : Nat)

def Lift (z : Rd) (ρ : Ren) (H : Heap) (w : World) (Q : Ex → Env → Heap → Prop) : Exit → Act → World → Prop :=
  fun e a' w' => ∃ e' ρ' A' H', Q e' A' H' ∧ St ρ H w ρ' H' w' ∧ Sim P ρ' H' w' ∧ EnvFr z ρ' H' w' n A' a' ∧ ExRel ρ' e' e

def AWp (c : Code) (Q : Ex → Env → Heap → Prop) (A : Env) (H : Heap) : Prop :=
  ∀ z ρ w a, Sim P ρ H w → EnvFr z ρ H w n A a → c.wpIn (fen z) 0 P (Lift P n z ρ H w Q) a w
end

section
variable {P : Program} {n : Nat} {Q : Ex → Env → Heap → Prop} {A : Env} {H : Heap}

theorem Lift.weaken {z : Rd} {ρ ρ1 : Ren} {H1 : Heap} {w w1 : World} (h : St ρ H w ρ1 H1 w1) {e : Exit} {a' : Act} {w' : World} (hl : Lift P n z ρ1 H1 w1 Q e a' w') : Lift P n z ρ H w Q e a' w' := by
  obtain ⟨e', ρ', A', H', hq, hst, r⟩ := hl
  exact ⟨e', ρ', A', H', hq, h.trans hst, r⟩

theorem AWp.mono {c : Code} {Q' : Ex → Env → Heap → Prop} (h : AWp P n c Q A H) (hq : ∀ e A H, Q e A H → Q' e A H) : AWp P n c Q' A H :=
  fun z ρ w a hs he => wpIn_mono (h z ρ w a hs he) (fun e a' w' ⟨e', ρ', A', H', q, r⟩ => ⟨e', ρ', A', H', hq _ _ _ q, r⟩)

theorem awp_skip (h : Q .normal A H) : AWp P n .skip Q A H :=
  fun z ρ w a hs he => wpIn_skip ⟨.normal, ρ, A, H, h, .refl _ _ _, hs, he, trivial⟩
theorem awp_label {l : Nat} (h : Q .normal A H) : AWp P n (.label l) Q A H :=
  fun z ρ w a hs he => wpIn_label ⟨.normal, ρ, A, H, h, .refl _ _ _, hs, he, trivial⟩
theorem awp_exit {id : Nat} (h : Q (.exit id) A H) : AWp P n (.exit id) Q A H :=
  fun z ρ w a hs he => wpIn_exit ⟨.exit id, ρ, A, H, h, .refl _ _ _, hs, he, rfl⟩
theorem awp_goto {l : Nat} (h : Q (.goto l) A H) : AWp P n (.goto l) Q A H :=
  fun z ρ w a hs he => wpIn_goto ⟨.goto l, ρ, A, H, h, .refl _ _ _, hs, he, rfl⟩
theorem awp_ret (h : Q .ret A H) : AWp P n .ret Q A H :=
  fun z ρ w a hs he => wpIn_ret ⟨.ret, ρ, A, H, h, .refl _ _ _, hs, he, trivial⟩

/-- What a first part must give for a second one. -/
def Then (k : Env → Heap → Prop) (Q : Ex → Env → Heap → Prop) : Ex → Env → Heap → Prop
  | .normal, A, H => k A H
  | e, A, H => Q e A H

theorem awp_seq {x y : Code} (h : AWp P n x (Then (AWp P n y Q) Q) A H) : AWp P n (.seq x y) Q A H := by
  intro z ρ w a hs he
  refine wpIn_seq (wpIn_mono (h z ρ w a hs he) ?_)
  rintro e a1 w1 ⟨e', ρ1, A1, H1, hq, hst, hs1, he1, hr⟩
  cases e' <;> cases e <;> simp only [ExRel] at hr
  case normal.normal =>
    exact wpIn_mono (hq z ρ1 w1 a1 hs1 he1) (fun e a' w' hl => Lift.weaken hst hl)
  all_goals exact ⟨_, ρ1, A1, H1, hq, hst, hs1, he1, by first | trivial | exact hr⟩

theorem awp_cond {c : Operand} {x y : Code} {t : Bool} (hok : okArg P n c = true) (hc : ev A c = .bool t) (h : AWp P n (if t then x else y) Q A H) : AWp P n (.cond c x y) Q A H := by
  intro z ρ w a hs he
  have hv := he.eval hs hok
  rw [hc] at hv
  have hb : a.eval c = .bool t := by
    generalize a.eval c = z at hv
    cases hv with
    | same _ _ => rfl
  exact wpIn_cond hb (h z ρ w a hs he)

theorem awp_cond_split {t : Nat} {x y : Code} {b : Bool} (hok : Nat.blt t n = true) (hc : A t = .bool b) (h1 : b = true → AWp P n x Q A H) (h0 : b = false → AWp P n y Q A H) : AWp P n (.cond (.tmp t) x y) Q A H := by
  cases b
  · exact awp_cond (t := false) hok hc (h0 rfl)
  · exact awp_cond (t := true) hok hc (h1 rfl)

def InBlock (id : Nat) (Q : Ex → Env → Heap → Prop) : Ex → Env → Heap → Prop
  | .exit id', A, H => if id' = id then Q .normal A H else Q (.exit id') A H
  | e, A, H => Q e A H

theorem awp_block {id : Nat} {c : Code} (h : AWp P n c (InBlock id Q) A H) : AWp P n (.block id c) Q A H := by
  intro z ρ w a hs he
  refine wpIn_block (wpIn_mono (h z ρ w a hs he) ?_)
  rintro e a1 w1 ⟨e', ρ1, A1, H1, hq, hst, hs1, he1, hr⟩
  cases e' <;> cases e <;> simp only [ExRel] at hr
  case exit.exit i j =>
    subst hr
    simp only [Exit.inBlock, InBlock] at *
    split at hq
    · rename_i e; rw [if_pos e]; exact ⟨.normal, ρ1, A1, H1, hq, hst, hs1, he1, trivial⟩
    · rename_i e; rw [if_neg e]; exact ⟨.exit i, ρ1, A1, H1, hq, hst, hs1, he1, rfl⟩
  all_goals exact ⟨_, ρ1, A1, H1, hq, hst, hs1, he1, by first | trivial | exact hr⟩

theorem awp_loop {c : Code} (I : Env → Heap → Prop) (μ : Env → Heap → Nat) (h0 : I A H)
    (round : ∀ A H, I A H → AWp P n c (Then (fun A' H' => I A' H' ∧ μ A' H' < μ A H) Q) A H) : AWp P n (.loop c) Q A H := by
  intro z ρ w a hs he b k cs hro hb hr
  have key : ∀ m, ∀ A1 H1 ρ1 w1 a1, μ A1 H1 = m → I A1 H1 → St ρ H w ρ1 H1 w1 → Sim P ρ1 H1 w1 → EnvFr z ρ1 H1 w1 n A1 a1 →
      ∃ e a' w', Lift P n z ρ H w Q e a' w' ∧ ArrivesIn (Machine.fenced P (fen z)) P (lone (b.atR a1 (.code c :: .inLoop c :: k)) cs w1) b k cs e a' w' := by
    intro m
    induction m using Nat.strongRecOn with
    | _ m ih =>
      intro A1 H1 ρ1 w1 a1 hm hI hst hs1 he1
      obtain ⟨e, a2, w2, hl, harr⟩ := round A1 H1 hI z ρ1 w1 a1 hs1 he1 b (.inLoop c :: k) cs hro hb hr
      obtain ⟨e', ρ2, A2, H2, hq, hst2, hs2, he2, hrr⟩ := hl
      have hst' := hst.trans hst2
      cases e' <;> cases e <;> simp only [ExRel] at hrr
      case normal.normal =>
        obtain ⟨hI2, hlt⟩ := hq
        obtain ⟨e3, a3, w3, hq3, harr3⟩ := ih (μ A2 H2) (hm ▸ hlt) A2 H2 ρ2 w2 a2 rfl hI2 hst' hs2 he2
        exact ⟨e3, a3, w3, hq3, .of_steps (StepsIn.trans harr (.one (fenced_calm hb hr rfl) stepR_inLoop)) harr3⟩
      all_goals exact ⟨_, a2, w2, ⟨_, ρ2, A2, H2, hq, hst', hs2, he2, by first | trivial | exact hrr⟩, .pass (x := .inLoop c) rfl (fun _ _ => .inl (by simp)) harr⟩
  obtain ⟨e, a', w', hq, harr⟩ := key _ A H ρ w a rfl h0 (.refl _ _ _) hs he
  exact ⟨e, a', w', hq, .of_steps (.one (fenced_calm hb hr rfl) stepR_loop) harr⟩
end
end Go.Ab
