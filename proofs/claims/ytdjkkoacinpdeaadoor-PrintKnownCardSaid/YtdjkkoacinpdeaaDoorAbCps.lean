/- The interpreter of code by continuations, made for the kernel: recursors, closed minors. -/
import Derived.Test.YtdjkkoacinpdeaaDoorAbExec
set_option linter.unusedVariables false
namespace Go.Ab

/-- The same temporaries. -/
def Rep (n : Nat) (A : Env) (e : E) : Prop := ∀ t, t < n → A t = envT e t

structure Ks (α : Type) where
  ret : E → Heap → α
  ext : Nat → E → Heap → α
  jmp : Nat → E → Heap → α

abbrev KT (α : Type) := Ks α → (E → Heap → α) → E → Heap → α

section
variable (α : Type) (bad : α) (P : Program) (call : CallS) (n F : Nat)

noncomputable def x_fin (k : E → Heap → α) (e : E) (d : Option Nat) (r : Cls × Value × Heap) : α :=
  Prod.rec (motive := fun _ => α) (fun _ q => Prod.rec (motive := fun _ => α) (fun v H => k (putT e d v) H) q) r

noncomputable def x_op (o : Oper) (k : E → Heap → α) (e : E) (H : Heap) : α :=
  Option.rec (motive := fun _ => α) bad (x_fin α k e o.dst) (aop P call o (envT e) H)

noncomputable def x_want (ops : Array Oper) (o : Oper) (k : E → Heap → α) (e : E) (H : Heap) : α :=
  Option.rec (motive := fun _ => α) bad (fun b => Bool.rec (motive := fun _ => α) (k (putT e o.dst undef) H) (x_op α bad P call o k e H) b) (wantedA n ops (envT e) o)

noncomputable def x_oper (ops : Array Oper) (o : Oper) (k : E → Heap → α) (e : E) (H : Heap) : α :=
  Bool.rec (motive := fun _ => α) bad (Option.rec (motive := fun _ => α) (x_op α bad P call o k e H) (fun _ => x_want α bad P call n ops o k e H) o.guard) (okOp P n o)

noncomputable def x_ops (ops : Array Oper) (l : List Oper) : (E → Heap → α) → E → Heap → α :=
  List.rec (motive := fun _ => (E → Heap → α) → E → Heap → α) (fun k => k) (fun o _ ih k => x_oper α bad P call n ops o (ih k)) l

noncomputable def x_draw (ops : Array Oper) (k : E → Heap → α) (e : E) (H : Heap) : α :=
  match runDraw P call n ops (envT e) H with
  | some (l, _, H1) => k (putAll ops.toList l e) H1
  | none => bad

noncomputable def x_region (_ : Nat) (ops : Array Oper) (draw : Bool) : KT α := fun _ k =>
  Bool.rec (motive := fun _ => E → Heap → α) (x_ops α bad P call n ops ops.toList k) (x_draw α bad P call n ops k) draw

noncomputable def vb (v : Value) (t f : α) : α :=
  match v with
  | .bool b => Bool.rec (motive := fun _ => α) f t b
  | _ => bad

noncomputable def x_cond (x : Operand) (_ _ : Code) (iha ihb : KT α) : KT α := fun ks k e H =>
  Bool.rec (motive := fun _ => α) bad (vb α bad (ev (envT e) x) (iha ks k e H) (ihb ks k e H)) (okArg P n x)

def x_skip : KT α := fun _ k => k
def x_seq (_ _ : Code) (iha ihb : KT α) : KT α := fun ks k => iha ks (ihb ks k)
noncomputable def x_block (id : Nat) (_ : Code) (ih : KT α) : KT α := fun ks k =>
  ih ⟨ks.ret, fun j => Bool.rec (motive := fun _ => E → Heap → α) (ks.ext j) k (Nat.beq j id), ks.jmp⟩ k
noncomputable def x_loop (_ : Code) (ih : KT α) : KT α := fun ks _ =>
  Nat.rec (motive := fun _ => E → Heap → α) (fun _ _ => bad) (fun _ k => ih ks k) F
def x_bad : KT α := fun _ _ _ _ => bad
def x_exit (id : Nat) : KT α := fun ks _ => ks.ext id
def x_goto (l : Nat) : KT α := fun ks _ => ks.jmp l
def x_ret : KT α := fun ks _ => ks.ret

/-- Inside a scope: jumps go on behind their label. -/
noncomputable def x_jump (ex : Code → KT α) (body : Code) (ks : Ks α) (k : E → Heap → α) (m : Nat) : Code → E → Heap → α :=
  Nat.rec (motive := fun _ => Code → E → Heap → α) (fun _ _ _ => bad)
    (fun _ ih rest => ex rest ⟨ks.ret, ks.ext, fun l => Option.rec (motive := fun _ => E → Heap → α) (ks.jmp l) ih (findLabel body l)⟩ k) m

noncomputable def x_scope (ex : Code → KT α) (body : Code) (_ : KT α) : KT α := fun ks k => x_jump α bad ex body ks k F body

/-- A loop over a function. -/
noncomputable def x_rng2 (A : Env) (ks : Ks α) (k : E → Heap → α) (e : E) (l : Nat) (H2 : Heap) : α :=
  match H2.get l with
  | some (.loop _ _ _ _ _ st) => (match st with
    | none => k e (H2.kill l)
    | some .ret => ks.ret e (H2.kill l)
    | some (.exit id) => ks.ext id e (H2.kill l)
    | some (.goto t) => ks.jmp t e (H2.kill l)
    | _ => bad)
  | _ => bad
noncomputable def x_rng1 (gf : FuncId) (xs ys : Array Value) (ps : Array Tmp) (as bd : Code) (ks : Ks α) (k : E → Heap → α) (e : E) (H : Heap) : α :=
  Bool.rec (motive := fun _ => α) bad (Option.rec (motive := fun _ => α) bad (fun r => x_rng2 α bad (envT e) ks k e H.next r.2) (call.fn gf (xs.toList ++ [.func (.yield H.next) #[] #[]] ++ ys.toList) (H.push (.loop (envT e) n ps as bd none)))) (entered P gf)
noncomputable def x_rangeFunc (g : Operand) (ps : Array Tmp) (as bd : Code) (_ _ : KT α) : KT α := fun ks k e H =>
  Bool.rec (motive := fun _ => α) bad (match ev (envT e) g with
    | .func (.func gf) xs ys => x_rng1 α bad P call n gf xs ys ps as bd ks k e H
    | _ => bad) (okArg P n g)

noncomputable def x_code (ex : Code → KT α) (c : Code) : KT α :=
  Code.rec (motive := fun _ => KT α) (x_skip α) (x_region α bad P call n) (x_seq α) (x_cond α bad P n) (x_block α) (x_loop α bad F) (x_rangeFunc α bad P call n) (x_exit α) (x_scope α bad F ex)
    (fun _ => x_skip α) (x_goto α) (x_ret α) (fun _ => x_bad α bad) c

noncomputable def exec (G : Nat) : Code → KT α :=
  Nat.rec (motive := fun _ => Code → KT α) (fun _ => x_bad α bad) (fun _ ex => x_code α bad P call n F ex) G
end

section
variable {α : Type} {bad : α} {P : Program} {call : CallS} {n F : Nat} {Q : Ex → Env → Heap → Prop} {A B : Env} {H : Heap}

theorem EnvFr.rep {z : Rd} {ρ : Ren} {w : World} {a : Act} (h : ∀ t, t < n → A t = B t) (he : EnvFr z ρ H w n B a) : EnvFr z ρ H w n A a := ⟨⟨he.size, fun t ht => by rw [h t ht]; exact he.tmps t ht⟩, he.fr⟩
theorem AWp.rep {c : Code} (h : ∀ t, t < n → A t = B t) (hw : AWp P n c Q A H) : AWp P n c Q B H := fun z ρ w a hs he => hw z ρ w a hs (he.rep h)
theorem AOps.rep {ops : Array Oper} {l : List Oper} (h : ∀ t, t < n → A t = B t) (hw : AOps P n ops l Q A H) : AOps P n ops l Q B H := fun z ρ w a hs he => hw z ρ w a hs (he.rep h)
theorem LoopWp.rep {c : Code} (h : ∀ t, t < n → A t = B t) (hw : LoopWp P n c Q A H) : LoopWp P n c Q B H := fun z ρ w a hs he => hw z ρ w a hs (he.rep h)
theorem ScopeWp.rep {b c : Code} (h : ∀ t, t < n → A t = B t) (hw : ScopeWp P n b c Q A H) : ScopeWp P n b c Q B H := fun z ρ w a hs he => hw z ρ w a hs (he.rep h)

theorem AWp.post {c : Code} {Q' : Ex → Env → Heap → Prop} (h : ∀ e A H, Q e A H → Q' e A H) (hw : AWp P n c Q A H) : AWp P n c Q' A H := fun z ρ w a hs he =>
  wpIn_mono (hw z ρ w a hs he) (fun e a' w' ⟨e', ρ', A', H', hq, h1⟩ => ⟨e', ρ', A', H', h _ _ _ hq, h1⟩)

/-- What is left to do behind each end. -/
def Fin_ (good : α → Prop) (n : Nat) (ks : Ks α) (k : E → Heap → α) : Ex → Env → Heap → Prop
  | .normal, A, H => ∃ e, Rep n A e ∧ good (k e H)
  | .ret, A, H => ∃ e, Rep n A e ∧ good (ks.ret e H)
  | .exit j, A, H => ∃ e, Rep n A e ∧ good (ks.ext j e H)
  | .goto l, A, H => ∃ e, Rep n A e ∧ good (ks.jmp l e H)
  | .panic _, _, _ => False

theorem okOp256 (hn : n ≤ 256) {o : Oper} (h : okOp P n o = true) : dstOk 256 o.dst = true := by
  have := okOp_dst h
  cases hd : o.dst with
  | none => rfl
  | some d => rw [hd] at this; simp only [dstOk, Nat.blt_eq] at this ⊢; omega

variable {good : α → Prop} (hbad : ¬ good bad) (hn : n ≤ 256) (hcall : CallSOk P call)
include hbad hn hcall

theorem x_ops_sound {ops : Array Oper} {ks : Ks α} {k : E → Heap → α} : ∀ (l : List Oper) (e : E) (H : Heap), good (x_ops α bad P call n ops l k e H) → AOps P n ops l (Fin_ good n ks k) (envT e) H
  | [], e, H, h => aops_nil ⟨e, fun _ _ => rfl, h⟩
  | o :: rest, e, H, h => by
    have h : good (x_oper α bad P call n ops o (x_ops α bad P call n ops rest k) e H) := h
    unfold x_oper at h
    cases hok : okOp P n o with
    | false => rw [hok] at h; exact absurd h hbad
    | true =>
      rw [hok] at h
      have next : ∀ v H', good (x_ops α bad P call n ops rest k (putT e o.dst v) H') → AOps P n ops rest (Fin_ good n ks k) (updO (envT e) o.dst v) H' := fun v H' hg =>
        (x_ops_sound rest _ _ hg).rep (fun t ht => envT_put e v (okOp256 hn hok) t (by omega))
      have hop : ∀ (h : good (x_op α bad P call o (x_ops α bad P call n ops rest k) e H)), ∃ v H', OpDoes P o (envT e) H v H' ∧ AOps P n ops rest (Fin_ good n ks k) (updO (envT e) o.dst v) H' := fun h => by
        unfold x_op at h
        cases ha : aop P call o (envT e) H with
        | none => rw [ha] at h; exact absurd h hbad
        | some r =>
          obtain ⟨c, v, H'⟩ := r
          rw [ha] at h
          exact ⟨v, H', (aop_sound hcall ha).does, next v H' h⟩
      cases hg : o.guard with
      | none =>
        rw [hg] at h
        obtain ⟨v, H', h1, h2⟩ := hop h
        exact aops_cons hg h1 hok h2
      | some jw =>
        rw [hg] at h
        obtain ⟨j, want⟩ := jw
        have h : good (x_want α bad P call n ops o (x_ops α bad P call n ops rest k) e H) := h
        unfold x_want at h
        cases hw : wantedA n ops (envT e) o with
        | none => rw [hw] at h; exact absurd h hbad
        | some b =>
          rw [hw] at h
          cases b with
          | true =>
            obtain ⟨v, H', h1, h2⟩ := hop h
            exact aops_wanted hg hw (fun _ => ⟨v, H', h1, h2⟩) (fun hh => by cases hh) hok
          | false => exact aops_wanted hg hw (fun hh => by cases hh) (fun _ => next undef H h) hok

omit hbad hcall in
theorem putAll_rep : ∀ (l : List Oper) (e : E) (A : Env) (H : Heap) (tr : List Stp) (A1 : Env) (H1 : Heap) {ops : Array Oper}, runTrace P call n ops l A H = some (tr, A1, H1) → Rep n A e → Rep n A1 (putAll l tr e)
  | [], e, A, H, tr, A1, H1, ops, h, hr => by
    simp only [runTrace, Option.some.injEq, Prod.mk.injEq] at h; obtain ⟨rfl, rfl, rfl⟩ := h; exact hr
  | o :: rest, e, A, H, tr, A1, H1, ops, h, hr => by
    have step : ∀ v, okOp P n o = true → Rep n (updO A o.dst v) (putT e o.dst v) := fun v hok t ht => by
      rw [envT_put e v (okOp256 hn hok) t (by omega)]
      cases o.dst with
      | none => exact hr t ht
      | some d =>
        simp only [updO]
        by_cases hd : t = d
        · subst hd; simp
        · rw [upd_ne _ _ hd, upd_ne _ _ hd]; exact hr t ht
    unfold runTrace at h
    cases hok : okOp P n o with
    | false => rw [hok] at h; cases h
    | true =>
      rw [hok] at h
      simp only [cond_true] at h
      split at h
      · split at h
        · rename_i c v H' ha
          split at h
          · rename_i l' r hl
            simp only [Option.some.injEq, Prod.mk.injEq] at h
            obtain ⟨rfl, hr1⟩ := h
            subst hr1
            exact putAll_rep rest _ _ _ _ _ _ hl (step v hok)
          · cases h
        · cases h
      · split at h
        · rename_i l' r hl
          simp only [Option.some.injEq, Prod.mk.injEq] at h
          obtain ⟨rfl, hr1⟩ := h
          subst hr1
          exact putAll_rep rest _ _ _ _ _ _ hl (step undef hok)
        · cases h
      · cases h

theorem exec_sound : ∀ (G : Nat) (c : Code) (ks : Ks α) (k : E → Heap → α) (e : E) (H : Heap), good (exec α bad P call n F G c ks k e H) → AWp P n c (Fin_ good n ks k) (envT e) H := by
  intro G
  induction G with
  | zero => intro c ks k e H h; exact absurd h hbad
  | succ G ihG =>
    intro c
    induction c with
    | skip => intro ks k e H h; exact awp_skip ⟨e, fun _ _ => rfl, h⟩
    | label l => intro ks k e H h; exact awp_label ⟨e, fun _ _ => rfl, h⟩
    | ret => intro ks k e H h; exact awp_ret ⟨e, fun _ _ => rfl, h⟩
    | exit id => intro ks k e H h; exact awp_exit ⟨e, fun _ _ => rfl, h⟩
    | goto l => intro ks k e H h; exact awp_goto ⟨e, fun _ _ => rfl, h⟩
    | refuse s => intro ks k e H h; exact absurd h hbad
    | rangeFunc g ps as bd iha ihb =>
      intro ks k e H h
      have h : good (x_rangeFunc α bad P call n g ps as bd (x_bad α bad) (x_bad α bad) ks k e H) := h
      unfold x_rangeFunc at h
      cases hok : okArg P n g with
      | false => rw [hok] at h; exact absurd h hbad
      | true =>
        rw [hok] at h
        have h : good (match ev (envT e) g with | .func (.func gf) xs ys => x_rng1 α bad P call n gf xs ys ps as bd ks k e H | _ => bad) := h
        split at h
        · rename_i gf xs ys eg
          unfold x_rng1 at h
          cases hen : entered P gf with
          | false => rw [hen] at h; exact absurd h hbad
          | true =>
            rw [hen] at h
            cases hc : call.fn gf (xs.toList ++ [.func (.yield H.next) #[] #[]] ++ ys.toList) (H.push (.loop (envT e) n ps as bd none)) with
            | none => rw [hc] at h; exact absurd h hbad
            | some r =>
              obtain ⟨v, H2⟩ := r
              rw [hc] at h
              have h : good (x_rng2 α bad (envT e) ks k e H.next H2) := h
              have hd := (hcall.fn _ _ _ _ _ hc).does hen
              unfold x_rng2 at h
              split at h
              · rename_i A' n' ps' as' bd' st hl
                refine awp_rangeFunc hok eg hen hd hl ?_
                cases st with
                | none => exact ⟨e, fun _ _ => rfl, h⟩
                | some c =>
                  cases c <;> simp only at h <;> first
                    | exact ⟨e, fun _ _ => rfl, h⟩
                    | exact absurd h hbad
              · exact absurd h hbad
        · exact absurd h hbad
    | region id ops draw =>
      intro ks k e H h
      cases draw with
      | false =>
        have := x_ops_sound (ks := ks) hbad hn hcall ops.toList e H h
        exact awp_region (l := ops.toList) (by simpa using this)
      | true =>
        have h : good (x_draw α bad P call n ops k e H) := h
        unfold x_draw at h
        split at h
        · rename_i l A1 H1 hd
          refine runDraw_sound hcall hd ⟨putAll ops.toList l e, ?_, h⟩
          unfold runDraw at hd
          cases hc : (P.follows .mixedOrders && drawOk ops (sgenAt ops)) with
          | false => rw [hc] at hd; cases hd
          | true =>
            rw [hc] at hd
            simp only [cond_true] at hd
            split at hd
            · rename_i l' t1' H1' htr
              cases hall : allIdx (stepChk P ops (masks ops.toList []) l' H1') 0 l' with
              | true =>
                rw [hall] at hd
                simp only [cond_true, Option.some.injEq, Prod.mk.injEq] at hd
                obtain ⟨rfl, rfl, rfl⟩ := hd
                exact putAll_rep hn _ _ _ _ _ _ _ htr (fun _ _ => rfl)
              | false => rw [hall] at hd; cases hd
            · cases hd
        · exact absurd h hbad
    | seq a b iha ihb =>
      intro ks k e H h
      refine awp_seq ((iha ks _ e H h).post ?_)
      intro ex A1 H1 hq
      cases ex with
      | normal =>
        obtain ⟨e1, hr, hg⟩ := hq
        exact (ihb ks k e1 H1 hg).rep (fun t ht => (hr t ht).symm)
      | _ => exact hq
    | cond x a b iha ihb =>
      intro ks k e H h
      have h : good (x_cond α bad P n x a b (exec α bad P call n F (G + 1) a) (exec α bad P call n F (G + 1) b) ks k e H) := h
      unfold x_cond at h
      cases hok : okArg P n x with
      | false => rw [hok] at h; exact absurd h hbad
      | true =>
        rw [hok] at h
        have h : good (vb α bad (ev (envT e) x) (exec α bad P call n F (G + 1) a ks k e H) (exec α bad P call n F (G + 1) b ks k e H)) := h
        unfold vb at h
        split at h
        · rename_i t ex
          cases t with
          | true => exact awp_cond hok ex (iha ks k e H h)
          | false => exact awp_cond hok ex (ihb ks k e H h)
        · exact absurd h hbad
    | block id b ih =>
      intro ks k e H h
      refine awp_block ((ih _ k e H h).post ?_)
      intro ex A1 H1 hq
      cases ex with
      | exit j =>
        obtain ⟨e1, hr, hg⟩ := hq
        simp only [InBlock]
        have hg : good (Bool.rec (motive := fun _ => E → Heap → α) (ks.ext j) k (Nat.beq j id) e1 H1) := hg
        by_cases hj : j = id
        · rw [if_pos hj]
          subst hj
          have : Nat.beq j j = true := by simp
          rw [this] at hg
          exact ⟨e1, hr, hg⟩
        · rw [if_neg hj]
          have : Nat.beq j id = false := by simp [nbeq, hj]
          rw [this] at hg
          exact ⟨e1, hr, hg⟩
      | _ => exact hq
    | loop b ih =>
      intro ks k e H h
      refine awp_of_loop ?_
      have key : ∀ (m : Nat) (e : E) (H : Heap), good (Nat.rec (motive := fun _ => E → Heap → α) (fun _ _ => bad) (fun _ k => exec α bad P call n F (G + 1) b ks k) m e H) → LoopWp P n b (Fin_ good n ks k) (envT e) H := by
        intro m
        induction m with
        | zero => intro e H h; exact absurd h hbad
        | succ m ihm =>
          intro e H h
          refine loop_step ((ih ks _ e H h).post ?_)
          intro ex A1 H1 hq
          cases ex with
          | normal =>
            obtain ⟨e1, hr, hg⟩ := hq
            exact (ihm e1 H1 hg).rep (fun t ht => (hr t ht).symm)
          | _ => exact hq
      exact key F e H h
    | scope b ih =>
      intro ks k e H h
      refine awp_of_scope ?_
      have key : ∀ (m : Nat) (c : Code) (e : E) (H : Heap), good (x_jump α bad (exec α bad P call n F G) b ks k m c e H) → ScopeWp P n b c (Fin_ good n ks k) (envT e) H := by
        intro m
        induction m with
        | zero => intro c e H h; exact absurd h hbad
        | succ m ihm =>
          intro c e H h
          refine scope_step ((ihG c _ k e H h).post ?_)
          intro ex A1 H1 hq
          cases ex with
          | goto l =>
            obtain ⟨e1, hr, hg⟩ := hq
            simp only [Jump]
            have hg : good (Option.rec (motive := fun _ => E → Heap → α) (ks.jmp l) (x_jump α bad (exec α bad P call n F G) b ks k m) (findLabel b l) e1 H1) := hg
            split
            · rename_i rest hf
              rw [hf] at hg
              exact (ihm rest e1 H1 hg).rep (fun t ht => (hr t ht).symm)
            · rename_i hf
              rw [hf] at hg
              exact ⟨e1, hr, hg⟩
          | _ => exact hq
      exact key F b e H h
end

/-! ### Functions -/

/-- The ends of a body. -/
noncomputable def k_ret (P : Program) (fn : Func) (e : E) (H : Heap) : Option (Value × Heap) :=
  Option.rec (motive := fun _ => Option (Value × Heap)) none (fun v => some (v, H)) (ares P fn.ntmps fn.results (envT e) H)

noncomputable def r_body (P : Program) (call : CallS) (F G : Nat) (fn : Func) (args : List Value) (H : Heap) (c : Code) : Option (Value × Heap) :=
  Bool.rec (motive := fun _ => Option (Value × Heap)) none
    (exec (Option (Value × Heap)) none P call fn.ntmps F G c ⟨k_ret P fn, fun _ _ _ => none, fun _ _ _ => none⟩ (k_ret P fn) (argsE args 0 E.none) H)
    (Nat.ble fn.ntmps 256 && Nat.ble args.length fn.ntmps)

noncomputable def r_func (P : Program) (call : CallS) (F G : Nat) (f : FuncId) (args : List Value) (H : Heap) (fn : Func) : Option (Value × Heap) :=
  Bool.rec (motive := fun _ => Option (Value × Heap)) none (Option.rec (motive := fun _ => Option (Value × Heap)) none (r_body P call F G fn args H) fn.body) (entered P f)

/-- The temporaries of a loop, as a tree. -/
noncomputable def eRow (A : Env) (b : Nat) : N16 Value := ⟨A b, A (b + 1), A (b + 2), A (b + 3), A (b + 4), A (b + 5), A (b + 6), A (b + 7), A (b + 8), A (b + 9), A (b + 10), A (b + 11), A (b + 12), A (b + 13), A (b + 14), A (b + 15)⟩
noncomputable def eOf (A : Env) : E := ⟨eRow A 0, eRow A 16, eRow A 32, eRow A 48, eRow A 64, eRow A 80, eRow A 96, eRow A 112, eRow A 128, eRow A 144, eRow A 160, eRow A 176, eRow A 192, eRow A 208, eRow A 224, eRow A 240⟩
theorem dig_at {α : Type} (n : N16 α) : ∀ d : D, n.get d = match d with | .d0 => n.a0 | .d1 => n.a1 | .d2 => n.a2 | .d3 => n.a3 | .d4 => n.a4 | .d5 => n.a5 | .d6 => n.a6 | .d7 => n.a7 | .d8 => n.a8 | .d9 => n.a9 | .d10 => n.a10 | .d11 => n.a11 | .d12 => n.a12 | .d13 => n.a13 | .d14 => n.a14 | .d15 => n.a15 := fun d => by cases d <;> rfl
theorem eRow_get (A : Env) (b : Nat) (d : D) : (eRow A b).get d = A (b + d.num) := by cases d <;> rfl
theorem eOf_get (A : Env) (d : D) : (eOf A).get d = eRow A (16 * d.num) := by cases d <;> rfl
theorem envT_eOf (A : Env) {t : Nat} (ht : t < 256) : envT (eOf A) t = A t := by
  have e1 : ∀ x y : Nat, Nat.div x y = x / y := fun _ _ => rfl
  have e2 : ∀ x y : Nat, Nat.mod x y = x % y := fun _ _ => rfl
  simp only [envT, e1, e2]
  rw [eOf_get, eRow_get, dig_num (by omega), dig_num (by omega)]
  congr 1
  omega

/-- What a yield gives. -/
noncomputable def y_end (l : Nat) (A : Env) (n : Nat) (ps : Array Tmp) (as bd : Code) (st : Option Code) (b : Bool) (H : Heap) : Option (Value × Heap) := some (.bool b, H.set l (.loop A n ps as bd st))
noncomputable def y_body (P : Program) (call : CallS) (F G : Nat) (l : Nat) (A : Env) (n : Nat) (ps : Array Tmp) (as bd : Code) (e : E) (H : Heap) : Option (Value × Heap) :=
  exec (Option (Value × Heap)) none P call n F G bd ⟨fun _ H1 => y_end l A n ps as bd (some .ret) false H1, fun j _ H1 => y_end l A n ps as bd (some (.exit j)) false H1, fun j _ H1 => y_end l A n ps as bd (some (.goto j)) false H1⟩
    (fun _ H1 => y_end l A n ps as bd none true H1) e H
noncomputable def r_yield (P : Program) (call : CallS) (F G : Nat) (l : Nat) (args : List Value) (H : Heap) : Option (Value × Heap) :=
  match H.get l with
  | some (.loop A n ps as bd none) =>
    bif Nat.ble n 256 && Nat.beq args.length ps.size then
      exec (Option (Value × Heap)) none P call n F G as ⟨fun _ _ => none, fun _ _ _ => none, fun _ _ _ => none⟩ (y_body P call F G l A n ps as bd) (eOf (setPs A ps.toList args)) (H.kill l)
    else none
  | _ => none

theorem r_yield_sound {P : Program} {call : CallS} (hcall : CallSOk P call) {F G : Nat} {l : Nat} {args : List Value} {H H' : Heap} {v : Value} (h : r_yield P call F G l args H = some (v, H')) : YDoes P l args H v H' := by
  unfold r_yield at h
  split at h
  · rename_i A n ps as bd hl
    cases hc : (Nat.ble n 256 && Nat.beq args.length ps.size) with
    | false => rw [hc] at h; cases h
    | true =>
      rw [hc] at h
      simp only [cond_true] at h
      simp only [Bool.and_eq_true, Nat.ble_eq, nbeq, decide_eq_true_eq] at hc
      refine ydoes_of_wp hl hc.2 ?_
      have main := exec_sound (good := fun r : Option (Value × Heap) => r = some (v, H')) (by simp) hc.1 hcall G as _ _ _ (H.kill l) h
      refine (main.post ?_).rep (fun t ht => envT_eOf _ (by omega))
      intro ex A1 H1 hq
      cases ex with
      | normal =>
        obtain ⟨e, hr, hg⟩ := hq
        have body := exec_sound (good := fun r : Option (Value × Heap) => r = some (v, H')) (by simp) hc.1 hcall G bd _ _ _ H1 hg
        refine (body.post ?_).rep (fun t ht => (hr t ht).symm)
        intro ex A2 H2 hq2
        cases ex <;> first
          | (obtain ⟨e2, _, hg2⟩ := hq2
             simp only [y_end, Option.some.injEq, Prod.mk.injEq] at hg2
             obtain ⟨g1, g2⟩ := hg2
             exact ⟨g1.symm, by rw [← g2]; exact .refl _⟩)
          | exact hq2.elim
      | ret => obtain ⟨_, _, hx⟩ := hq; cases hx
      | exit j => obtain ⟨_, _, hx⟩ := hq; cases hx
      | goto j => obtain ⟨_, _, hx⟩ := hq; cases hx
      | panic u => exact hq.elim
  · cases h

noncomputable def run (P : Program) (known : CallF) (F G : Nat) (k : Nat) : CallS :=
  Nat.rec (motive := fun _ => CallS) ⟨fun _ _ _ => none, fun _ _ _ => none⟩
    (fun _ ih => ⟨fun f args H => Option.rec (motive := fun _ => Option (Value × Heap)) (Option.rec (motive := fun _ => Option (Value × Heap)) none (r_func P ih F G f args H) P.funcs[f]?) some (known f args H), r_yield P ih F G⟩) k

theorem r_body_sound {P : Program} {call : CallS} (hcall : CallSOk P call) {F G : Nat} {f : FuncId} {fn : Func} {c : Code} {args : List Value} {H H' : Heap} {v : Value} (hf : P.funcs[f]? = some fn) (hb : fn.body = some c)
    (h : r_body P call F G fn args H c = some (v, H')) : Does P f args H (.ret v) H' := by
  unfold r_body at h
  cases hc : (Nat.ble fn.ntmps 256 && Nat.ble args.length fn.ntmps) with
  | false => rw [hc] at h; cases h
  | true =>
    rw [hc] at h
    simp only [Bool.and_eq_true, Nat.ble_eq] at hc
    have en : args.length + (fn.ntmps - args.length) = fn.ntmps := by omega
    refine does_of_wp hf hb ?_
    rw [en]
    have main := exec_sound (good := fun r : Option (Value × Heap) => r = some (v, H')) (by simp) hc.1 hcall G c _ _ _ H h
    have hres : ∀ (A1 : Env) (H1 : Heap), (∃ e, Rep fn.ntmps A1 e ∧ k_ret P fn e H1 = some (v, H')) → ∃ v1, Out.ret v = .ret v1 ∧ ares P fn.ntmps fn.results A1 H1 = some v1 ∧ Less H' H1 := by
      rintro A1 H1 ⟨e, hr, hk⟩
      unfold k_ret at hk
      cases ha : ares P fn.ntmps fn.results (envT e) H1 with
      | none => rw [ha] at hk; cases hk
      | some u =>
        rw [ha] at hk
        have hk : some (u, H1) = some (v, H') := hk
        simp only [Option.some.injEq, Prod.mk.injEq] at hk
        obtain ⟨e1, e2⟩ := hk
        rw [← e1, ← e2]
        refine ⟨_, rfl, ?_, .refl _⟩
        rw [← ha]
        have h1 : ∀ r, ares1 P fn.ntmps A1 H1 r = ares1 P fn.ntmps (envT e) H1 r := fun r => by
          cases r with
          | tmp t =>
            simp only [ares1]
            by_cases ht : t < fn.ntmps
            · simp only [ht, if_true, hr t ht]
            · simp only [ht, if_false]
          | cell a t =>
            simp only [ares1]
            by_cases ht : a < fn.ntmps
            · simp only [ht, if_true, hr a ht]
            · simp only [ht, if_false]
        unfold ares
        rw [show ares1 P fn.ntmps A1 H1 = ares1 P fn.ntmps (envT e) H1 from funext h1]
    refine (main.post ?_).rep (fun t ht => envT_args (by omega) t (by omega))
    intro ex A1 H1 hq
    cases ex with
    | normal => exact hres A1 H1 hq
    | ret => exact hres A1 H1 hq
    | exit j => obtain ⟨_, _, hx⟩ := hq; cases hx
    | goto j => obtain ⟨_, _, hx⟩ := hq; cases hx
    | panic u => exact hq.elim

theorem run_sound {P : Program} {known : CallF} (hk : CallOk P known) {F G : Nat} : ∀ k, CallSOk P (run P known F G k) := by
  intro k
  induction k with
  | zero => exact ⟨fun f args H v H' h => (by cases h), fun l args H v H' h => (by cases h)⟩
  | succ k ih =>
    refine ⟨fun f args H v H' h => ?_, fun l args H v H' h => r_yield_sound ih h⟩
    have h : Option.rec (motive := fun _ => Option (Value × Heap)) (Option.rec (motive := fun _ => Option (Value × Heap)) none (r_func P (run P known F G k) F G f args H) P.funcs[f]?) some (known f args H) = some (v, H') := h
    cases hkn : known f args H with
    | some r => rw [hkn] at h; cases h; exact hk f args H v H' hkn
    | none =>
      rw [hkn] at h
      cases hf : P.funcs[f]? with
      | none => rw [hf] at h; cases h
      | some fn =>
        rw [hf] at h
        have h : r_func P (run P known F G k) F G f args H fn = some (v, H') := h
        unfold r_func at h
        cases he : entered P f with
        | false => rw [he] at h; cases h
        | true =>
          rw [he] at h
          cases hb : fn.body with
          | none => rw [hb] at h; cases h
          | some c => rw [hb] at h; exact .inl ⟨he, r_body_sound ih hf hb h⟩

/-- What is known: entries of the model. -/
noncomputable def xknown (xt : FuncId → Option Xk) : CallF := fun f args H =>
  match xt f with
  | some k => (k.val args).map fun v => (v, H)
  | none => none

theorem xknown_ok {P : Program} {xt : FuncId → Option Xk} (h : ∀ f k, xt f = some k → IsExt P f k) : CallOk P (xknown xt) := by
  intro f args H v H' hr
  unfold xknown at hr
  split at hr
  · rename_i k hk
    simp only [Option.map_eq_some_iff, Prod.mk.injEq] at hr
    obtain ⟨u, hu, rfl, rfl⟩ := hr
    exact .inr (ext_does (h f k hk) hu)
  · cases hr

theorem none_known {P : Program} : CallOk P (fun _ _ _ => none) := fun f args H v H' h => by cases h
end Go.Ab
