/- The interpreter of code by continuations, made for the kernel: recursors, closed minors. -/
import Derived.Test.YthoanamkoigjeaaGreatDoorAbE
import Derived.Test.YthoanamkoigjeaaGreatDoorAbD
import Derived.ProofKit
import Derived.OpenShut
set_option linter.unusedVariables false
namespace Go.Ab

/-- The same temporaries. -/
def Rep (n : Nat) (A : Env) (e : E) : Prop := ∀ t, t < n → A t = envT e t

structure Ks (α : Type) where
  ret : E → Heap → α
  ext : Nat → E → Heap → α
  jmp : Nat → E → Heap → α
  pan : Value → E → Heap → α

abbrev KT (α : Type) := Ks α → (E → Heap → α) → E → Heap → α

section
variable (α : Type) (bad : α) (P : Program) (call : CallS) (n F : Nat)

noncomputable def x_fin (k : E → Heap → α) (e : E) (d : Option Nat) (r : Cls × Value × Heap) : α :=
  Prod.rec (motive := fun _ => α) (fun _ q => Prod.rec (motive := fun _ => α) (fun v H => k (putT e d v) H) q) r

/-- An operation that may panic. -/
noncomputable def x_pn (ks : Ks α) (e : E) (r : Option (Value × Heap)) : α :=
  Option.rec (motive := fun _ => α) bad (fun q => Prod.rec (motive := fun _ => α) (fun v H => ks.pan v e H) q) r
noncomputable def x_pan (o : Oper) (ks : Ks α) (e : E) (H : Heap) : α :=
  match o.op with
  | .panic x => (match ev (envT e) x with
    | .iface t v => ks.pan (.iface t v) e H
    | _ => bad)
  | .call ⟨.value (.func f), args, _⟩ => x_pn α bad ks e (call.pn f (args.map (ev (envT e))).toList H)
  | .call ⟨.value c, args, _⟩ => (match ev (envT e) c with
    | .func (.func f) xs ys => x_pn α bad ks e (call.pn f (xs.toList ++ (args.map (ev (envT e))).toList ++ ys.toList) H)
    | _ => bad)
  | _ => bad

noncomputable def x_op (o : Oper) (k : E → Heap → α) (e : E) (H : Heap) : α :=
  Option.rec (motive := fun _ => α) bad (x_fin α k e o.dst) (aop P call o (envT e) H)
noncomputable def x_opp (o : Oper) (ks : Ks α) (k : E → Heap → α) (e : E) (H : Heap) : α :=
  Option.rec (motive := fun _ => α) (x_pan α bad call o ks e H) (x_fin α k e o.dst) (aop P call o (envT e) H)

noncomputable def x_want (ops : Array Oper) (o : Oper) (k : E → Heap → α) (e : E) (H : Heap) : α :=
  Option.rec (motive := fun _ => α) bad (fun b => Bool.rec (motive := fun _ => α) (k (putT e o.dst undef) H) (x_op α bad P call o k e H) b) (wantedA n ops (envT e) o)

noncomputable def x_oper (ops : Array Oper) (ks : Ks α) (o : Oper) (k : E → Heap → α) (e : E) (H : Heap) : α :=
  Bool.rec (motive := fun _ => α) bad (Option.rec (motive := fun _ => α) (x_opp α bad P call o ks k e H) (fun _ => x_want α bad P call n ops o k e H) o.guard) (okOp P n o)

noncomputable def x_ops (ops : Array Oper) (ks : Ks α) (l : List Oper) : (E → Heap → α) → E → Heap → α :=
  List.rec (motive := fun _ => (E → Heap → α) → E → Heap → α) (fun k => k) (fun o _ ih k => x_oper α bad P call n ops ks o (ih k)) l

noncomputable def x_draw (ops : Array Oper) (k : E → Heap → α) (e : E) (H : Heap) : α :=
  match runDraw P call n ops (envT e) H with
  | some (l, _, H1) => k (putAll ops.toList l e) H1
  | none => bad

noncomputable def x_region (_ : Nat) (ops : Array Oper) (draw : Bool) : KT α := fun ks k =>
  Bool.rec (motive := fun _ => E → Heap → α) (x_ops α bad P call n ops ks ops.toList k) (x_draw α bad P call n ops k) draw

noncomputable def vb (v : Value) (t f : α) : α :=
  match v with
  | .bool b => Bool.rec (motive := fun _ => α) f t b
  | _ => bad

noncomputable def x_cond (x : Operand) (_ _ : Code) (iha ihb : KT α) : KT α := fun ks k e H =>
  Bool.rec (motive := fun _ => α) bad (vb α bad (ev (envT e) x) (iha ks k e H) (ihb ks k e H)) (okArg P n x)

def x_skip : KT α := fun _ k => k
def x_seq (_ _ : Code) (iha ihb : KT α) : KT α := fun ks k => iha ks (ihb ks k)
noncomputable def x_block (id : Nat) (_ : Code) (ih : KT α) : KT α := fun ks k =>
  ih ⟨ks.ret, fun j => Bool.rec (motive := fun _ => E → Heap → α) (ks.ext j) k (Nat.beq j id), ks.jmp, ks.pan⟩ k
noncomputable def x_loop (_ : Code) (ih : KT α) : KT α := fun ks _ =>
  Nat.rec (motive := fun _ => E → Heap → α) (fun _ _ => bad) (fun _ k => ih ks k) F
def x_bad : KT α := fun _ _ _ _ => bad
def x_exit (id : Nat) : KT α := fun ks _ => ks.ext id
def x_goto (l : Nat) : KT α := fun ks _ => ks.jmp l
def x_ret : KT α := fun ks _ => ks.ret

/-- Inside a scope: jumps go on behind their label. -/
noncomputable def x_jump (ex : Code → KT α) (body : Code) (ks : Ks α) (k : E → Heap → α) (m : Nat) : Code → E → Heap → α :=
  Nat.rec (motive := fun _ => Code → E → Heap → α) (fun _ _ _ => bad)
    (fun _ ih rest => ex rest ⟨ks.ret, ks.ext, fun l => Option.rec (motive := fun _ => E → Heap → α) (ks.jmp l) ih (findLabel body l), ks.pan⟩ k) m

noncomputable def x_scope (ex : Code → KT α) (body : Code) (_ : KT α) : KT α := fun ks k => x_jump α bad ex body ks k F body

/-- A loop over a function. -/
noncomputable def x_rng2 (A : Env) (ks : Ks α) (k : E → Heap → α) (e : E) (l : Nat) (H2 : Heap) : α :=
  match H2.get l with
  | some (.loop _ _ _ _ _ st) => (match st with
    | none => k e (H2.kill l)
    | some .ret => ks.ret e (H2.kill l)
    | some (.exit id) => ks.ext id e (H2.kill l)
    | some (.goto t) => ks.jmp t e (H2.kill l)
    | _ => bad)
  | _ => bad
noncomputable def x_rng1 (gf : FuncId) (xs ys : Array Value) (ps : Array Tmp) (as bd : Code) (ks : Ks α) (k : E → Heap → α) (e : E) (H : Heap) : α :=
  Bool.rec (motive := fun _ => α) bad (Option.rec (motive := fun _ => α) bad (fun r => x_rng2 α bad (envT e) ks k e H.next r.2) (call.fn gf (xs.toList ++ [.func (.yield H.next) #[] #[]] ++ ys.toList) (H.push (.loop (envT e) n ps as bd none)))) (entered P gf)
noncomputable def x_rangeFunc (g : Operand) (ps : Array Tmp) (as bd : Code) (_ _ : KT α) : KT α := fun ks k e H =>
  Bool.rec (motive := fun _ => α) bad (match ev (envT e) g with
    | .func (.func gf) xs ys => x_rng1 α bad P call n gf xs ys ps as bd ks k e H
    | _ => bad) (okArg P n g)

noncomputable def x_code (ex : Code → KT α) (c : Code) : KT α :=
  Code.rec (motive := fun _ => KT α) (x_skip α) (x_region α bad P call n) (x_seq α) (x_cond α bad P n) (x_block α) (x_loop α bad F) (x_rangeFunc α bad P call n) (x_exit α) (x_scope α bad F ex)
    (fun _ => x_skip α) (x_goto α) (x_ret α) (fun _ => x_bad α bad) c

noncomputable def exec (G : Nat) : Code → KT α :=
  Nat.rec (motive := fun _ => Code → KT α) (fun _ => x_bad α bad) (fun _ ex => x_code α bad P call n F ex) G
end

section
variable {α : Type} {bad : α} {P : Program} {call : CallS} {n F : Nat} {Q : Ex → Env → Heap → Prop} {A B : Env} {H : Heap}

theorem EnvFr.rep {z : Rd} {ρ : Ren} {w : World} {a : Act} (h : ∀ t, t < n → A t = B t) (he : EnvFr z ρ H w n B a) : EnvFr z ρ H w n A a := ⟨⟨he.size, fun t ht => by rw [h t ht]; exact he.tmps t ht⟩, he.fr⟩
theorem AWp.rep {c : Code} (h : ∀ t, t < n → A t = B t) (hw : AWp P n c Q A H) : AWp P n c Q B H := fun z ρ w a hs he => hw z ρ w a hs (he.rep h)
theorem AOps.rep {ops : Array Oper} {l : List Oper} (h : ∀ t, t < n → A t = B t) (hw : AOps P n ops l Q A H) : AOps P n ops l Q B H := fun z ρ w a hs he => hw z ρ w a hs (he.rep h)
theorem LoopWp.rep {c : Code} (h : ∀ t, t < n → A t = B t) (hw : LoopWp P n c Q A H) : LoopWp P n c Q B H := fun z ρ w a hs he => hw z ρ w a hs (he.rep h)
theorem ScopeWp.rep {b c : Code} (h : ∀ t, t < n → A t = B t) (hw : ScopeWp P n b c Q A H) : ScopeWp P n b c Q B H := fun z ρ w a hs he => hw z ρ w a hs (he.rep h)

theorem AWp.post {c : Code} {Q' : Ex → Env → Heap → Prop} (h : ∀ e A H, Q e A H → Q' e A H) (hw : AWp P n c Q A H) : AWp P n c Q' A H := fun z ρ w a hs he =>
  wpIn_mono (hw z ρ w a hs he) (fun e a' w' ⟨e', ρ', A', H', hq, h1⟩ => ⟨e', ρ', A', H', h _ _ _ hq, h1⟩)

/-- What is left to do behind each end. -/
def Fin_ (good : α → Prop) (n : Nat) (ks : Ks α) (k : E → Heap → α) : Ex → Env → Heap → Prop
  | .normal, A, H => ∃ e, Rep n A e ∧ good (k e H)
  | .ret, A, H => ∃ e, Rep n A e ∧ good (ks.ret e H)
  | .exit j, A, H => ∃ e, Rep n A e ∧ good (ks.ext j e H)
  | .goto l, A, H => ∃ e, Rep n A e ∧ good (ks.jmp l e H)
  | .panic v, A, H => ∃ e, Rep n A e ∧ good (ks.pan v e H)

theorem okOp256 (hn : n ≤ 256) {o : Oper} (h : okOp P n o = true) : dstOk 256 o.dst = true := by
  have := okOp_dst h
  cases hd : o.dst with
  | none => rfl
  | some d => rw [hd] at this; simp only [dstOk, Nat.blt_eq] at this ⊢; omega

variable {good : α → Prop} (hbad : ¬ good bad) (hn : n ≤ 256) (hcall : CallSOk P call)
include hbad hn hcall

omit hn in
theorem x_pan_sound {o : Oper} {ks : Ks α} {e : E} {H : Heap} (h : good (x_pan α bad call o ks e H)) : ∃ v H', OpPan P o (envT e) H v H' ∧ good (ks.pan v e H') := by
  obtain ⟨dst, op, ty, pos, af, g⟩ := o
  have hpn : ∀ r, good (x_pn α bad ks e r) → ∃ v H', r = some (v, H') ∧ good (ks.pan v e H') := fun r hr => by
    cases r with
    | none => exact absurd hr hbad
    | some q => exact ⟨q.1, q.2, rfl, hr⟩
  unfold x_pan at h
  split at h
  · rename_i x hop
    simp only at hop
    subst hop
    split at h
    · rename_i t v ex
      exact ⟨_, H, op_panic ex, h⟩
    · exact absurd h hbad
  · rename_i f args ts hop
    simp only at hop
    subst hop
    obtain ⟨v, H', hr, hg⟩ := hpn _ h
    obtain ⟨h1, h2⟩ := hcall.pn _ _ _ _ _ hr
    exact ⟨v, H', op_call h1 h2, hg⟩
  · rename_i c args ts hne hop
    simp only at hop
    subst hop
    split at h
    · rename_i f xs ys ec
      obtain ⟨v, H', hr, hg⟩ := hpn _ h
      obtain ⟨h1, h2⟩ := hcall.pn _ _ _ _ _ hr
      exact ⟨v, H', op_callv ec h1 h2, hg⟩
    · exact absurd h hbad
  · exact absurd h hbad

theorem x_ops_sound {ops : Array Oper} {ks : Ks α} {k : E → Heap → α} : ∀ (l : List Oper) (e : E) (H : Heap), good (x_ops α bad P call n ops ks l k e H) → AOps P n ops l (Fin_ good n ks k) (envT e) H
  | [], e, H, h => aops_nil ⟨e, fun _ _ => rfl, h⟩
  | o :: rest, e, H, h => by
    have h : good (x_oper α bad P call n ops ks o (x_ops α bad P call n ops ks rest k) e H) := h
    unfold x_oper at h
    cases hok : okOp P n o with
    | false => rw [hok] at h; exact absurd h hbad
    | true =>
      rw [hok] at h
      have next : ∀ v H', good (x_ops α bad P call n ops ks rest k (putT e o.dst v) H') → AOps P n ops rest (Fin_ good n ks k) (updO (envT e) o.dst v) H' := fun v H' hg =>
        (x_ops_sound rest _ _ hg).rep (fun t ht => envT_put e v (okOp256 hn hok) t (by omega))
      have hop : ∀ (h : good (x_op α bad P call o (x_ops α bad P call n ops ks rest k) e H)), ∃ v H', OpDoes P o (envT e) H v H' ∧ AOps P n ops rest (Fin_ good n ks k) (updO (envT e) o.dst v) H' := fun h => by
        unfold x_op at h
        cases ha : aop P call o (envT e) H with
        | none => rw [ha] at h; exact absurd h hbad
        | some r =>
          obtain ⟨c, v, H'⟩ := r
          rw [ha] at h
          exact ⟨v, H', (aop_sound hcall ha).does, next v H' h⟩
      cases hg : o.guard with
      | none =>
        rw [hg] at h
        have h : good (x_opp α bad P call o ks (x_ops α bad P call n ops ks rest k) e H) := h
        unfold x_opp at h
        cases ha : aop P call o (envT e) H with
        | none =>
          rw [ha] at h
          obtain ⟨v, H', h1, h2⟩ := x_pan_sound hbad hcall h
          exact aops_panic hg h1 hok ⟨e, fun _ _ => rfl, h2⟩
        | some r =>
          obtain ⟨c, v, H'⟩ := r
          rw [ha] at h
          exact aops_cons hg (aop_sound hcall ha).does hok (next v H' h)
      | some jw =>
        rw [hg] at h
        obtain ⟨j, want⟩ := jw
        have h : good (x_want α bad P call n ops o (x_ops α bad P call n ops ks rest k) e H) := h
        unfold x_want at h
        cases hw : wantedA n ops (envT e) o with
        | none => rw [hw] at h; exact absurd h hbad
        | some b =>
          rw [hw] at h
          cases b with
          | true =>
            obtain ⟨v, H', h1, h2⟩ := hop h
            exact aops_wanted hg hw (fun _ => ⟨v, H', h1, h2⟩) (fun hh => by cases hh) hok
          | false => exact aops_wanted hg hw (fun hh => by cases hh) (fun _ => next undef H h) hok

omit hbad hcall in
theorem putAll_rep : ∀ (l : List Oper) (e : E) (A : Env) (H : Heap) (tr : List Stp) (A1 : Env) (H1 : Heap) {ops : Array Oper}, runTrace P call n ops l A H = some (tr, A1, H1) → Rep n A e → Rep n A1 (putAll l tr e)
  | [], e, A, H, tr, A1, H1, ops, h, hr => by
    simp only [runTrace, Option.some.injEq, Prod.mk.injEq] at h; obtain ⟨rfl, rfl, rfl⟩ := h; exact hr
  | o :: rest, e, A, H, tr, A1, H1, ops, h, hr => by
    have step : ∀ v, okOp P n o = true → Rep n (updO A o.dst v) (putT e o.dst v) := fun v hok t ht => by
      rw [envT_put e v (okOp256 hn hok) t (by omega)]
      cases o.dst with
      | none => exact hr t ht
      | some d =>
        simp only [updO]
        by_cases hd : t = d
        · subst hd; simp
        · rw [upd_ne _ _ hd, upd_ne _ _ hd]; exact hr t ht
    unfold runTrace at h
    cases hok : okOp P n o with
    | false => rw [hok] at h; cases h
    | true =>
      rw [hok] at h
      simp only [cond_true] at h
      split at h
      · split at h
        · rename_i c v H' ha
          split at h
          · rename_i l' r hl
            simp only [Option.some.injEq, Prod.mk.injEq] at h
            obtain ⟨rfl, hr1⟩ := h
            subst hr1
            exact putAll_rep rest _ _ _ _ _ _ hl (step v hok)
          · cases h
        · cases h
      · split at h
        · rename_i l' r hl
          simp only [Option.some.injEq, Prod.mk.injEq] at h
          obtain ⟨rfl, hr1⟩ := h
          subst hr1
          exact putAll_rep rest _ _ _ _ _ _ hl (step undef hok)
        · cases h
      · cases h

theorem exec_sound : ∀ (G : Nat) (c : Code) (ks : Ks α) (k : E → Heap → α) (e : E) (H : Heap), good (exec α bad P call n F G c ks k e H) → AWp P n c (Fin_ good n ks k) (envT e) H := by
  intro G
  induction G with
  | zero => intro c ks k e H h; exact absurd h hbad
  | succ G ihG =>
    intro c
    induction c with
    | skip => intro ks k e H h; exact awp_skip ⟨e, fun _ _ => rfl, h⟩
    | label l => intro ks k e H h; exact awp_label ⟨e, fun _ _ => rfl, h⟩
    | ret => intro ks k e H h; exact awp_ret ⟨e, fun _ _ => rfl, h⟩
    | exit id => intro ks k e H h; exact awp_exit ⟨e, fun _ _ => rfl, h⟩
    | goto l => intro ks k e H h; exact awp_goto ⟨e, fun _ _ => rfl, h⟩
    | refuse s => intro ks k e H h; exact absurd h hbad
    | rangeFunc g ps as bd iha ihb =>
      intro ks k e H h
      have h : good (x_rangeFunc α bad P call n g ps as bd (x_bad α bad) (x_bad α bad) ks k e H) := h
      unfold x_rangeFunc at h
      cases hok : okArg P n g with
      | false => rw [hok] at h; exact absurd h hbad
      | true =>
        rw [hok] at h
        have h : good (match ev (envT e) g with | .func (.func gf) xs ys => x_rng1 α bad P call n gf xs ys ps as bd ks k e H | _ => bad) := h
        split at h
        · rename_i gf xs ys eg
          unfold x_rng1 at h
          cases hen : entered P gf with
          | false => rw [hen] at h; exact absurd h hbad
          | true =>
            rw [hen] at h
            cases hc : call.fn gf (xs.toList ++ [.func (.yield H.next) #[] #[]] ++ ys.toList) (H.push (.loop (envT e) n ps as bd none)) with
            | none => rw [hc] at h; exact absurd h hbad
            | some r =>
              obtain ⟨v, H2⟩ := r
              rw [hc] at h
              have h : good (x_rng2 α bad (envT e) ks k e H.next H2) := h
              have hd := (hcall.fn _ _ _ _ _ hc).does hen
              unfold x_rng2 at h
              split at h
              · rename_i A' n' ps' as' bd' st hl
                refine awp_rangeFunc hok eg hen hd hl ?_
                cases st with
                | none => exact ⟨e, fun _ _ => rfl, h⟩
                | some c =>
                  cases c <;> simp only at h <;> first
                    | exact ⟨e, fun _ _ => rfl, h⟩
                    | exact absurd h hbad
              · exact absurd h hbad
        · exact absurd h hbad
    | region id ops draw =>
      intro ks k e H h
      cases draw with
      | false =>
        have := x_ops_sound (ks := ks) hbad hn hcall ops.toList e H h
        exact awp_region (l := ops.toList) (by simpa using this)
      | true =>
        have h : good (x_draw α bad P call n ops k e H) := h
        unfold x_draw at h
        split at h
        · rename_i l A1 H1 hd
          refine runDraw_sound hcall hd ⟨putAll ops.toList l e, ?_, h⟩
          unfold runDraw at hd
          cases hc : (P.follows .mixedOrders && drawOk ops (sgenAt ops)) with
          | false => rw [hc] at hd; cases hd
          | true =>
            rw [hc] at hd
            simp only [cond_true] at hd
            split at hd
            · rename_i l' t1' H1' htr
              cases hall : allIdx (stepChk P ops (masks ops.toList []) l' H1') 0 l' with
              | true =>
                rw [hall] at hd
                simp only [cond_true, Option.some.injEq, Prod.mk.injEq] at hd
                obtain ⟨rfl, rfl, rfl⟩ := hd
                exact putAll_rep hn _ _ _ _ _ _ _ htr (fun _ _ => rfl)
              | false => rw [hall] at hd; cases hd
            · cases hd
        · exact absurd h hbad
    | seq a b iha ihb =>
      intro ks k e H h
      refine awp_seq ((iha ks _ e H h).post ?_)
      intro ex A1 H1 hq
      cases ex with
      | normal =>
        obtain ⟨e1, hr, hg⟩ := hq
        exact (ihb ks k e1 H1 hg).rep (fun t ht => (hr t ht).symm)
      | _ => exact hq
    | cond x a b iha ihb =>
      intro ks k e H h
      have h : good (x_cond α bad P n x a b (exec α bad P call n F (G + 1) a) (exec α bad P call n F (G + 1) b) ks k e H) := h
      unfold x_cond at h
      cases hok : okArg P n x with
      | false => rw [hok] at h; exact absurd h hbad
      | true =>
        rw [hok] at h
        have h : good (vb α bad (ev (envT e) x) (exec α bad P call n F (G + 1) a ks k e H) (exec α bad P call n F (G + 1) b ks k e H)) := h
        unfold vb at h
        split at h
        · rename_i t ex
          cases t with
          | true => exact awp_cond hok ex (iha ks k e H h)
          | false => exact awp_cond hok ex (ihb ks k e H h)
        · exact absurd h hbad
    | block id b ih =>
      intro ks k e H h
      refine awp_block ((ih _ k e H h).post ?_)
      intro ex A1 H1 hq
      cases ex with
      | exit j =>
        obtain ⟨e1, hr, hg⟩ := hq
        simp only [InBlock]
        have hg : good (Bool.rec (motive := fun _ => E → Heap → α) (ks.ext j) k (Nat.beq j id) e1 H1) := hg
        by_cases hj : j = id
        · rw [if_pos hj]
          subst hj
          have : Nat.beq j j = true := by simp
          rw [this] at hg
          exact ⟨e1, hr, hg⟩
        · rw [if_neg hj]
          have : Nat.beq j id = false := by simp [nbeq, hj]
          rw [this] at hg
          exact ⟨e1, hr, hg⟩
      | _ => exact hq
    | loop b ih =>
      intro ks k e H h
      refine awp_of_loop ?_
      have key : ∀ (m : Nat) (e : E) (H : Heap), good (Nat.rec (motive := fun _ => E → Heap → α) (fun _ _ => bad) (fun _ k => exec α bad P call n F (G + 1) b ks k) m e H) → LoopWp P n b (Fin_ good n ks k) (envT e) H := by
        intro m
        induction m with
        | zero => intro e H h; exact absurd h hbad
        | succ m ihm =>
          intro e H h
          refine loop_step ((ih ks _ e H h).post ?_)
          intro ex A1 H1 hq
          cases ex with
          | normal =>
            obtain ⟨e1, hr, hg⟩ := hq
            exact (ihm e1 H1 hg).rep (fun t ht => (hr t ht).symm)
          | _ => exact hq
      exact key F e H h
    | scope b ih =>
      intro ks k e H h
      refine awp_of_scope ?_
      have key : ∀ (m : Nat) (c : Code) (e : E) (H : Heap), good (x_jump α bad (exec α bad P call n F G) b ks k m c e H) → ScopeWp P n b c (Fin_ good n ks k) (envT e) H := by
        intro m
        induction m with
        | zero => intro c e H h; exact absurd h hbad
        | succ m ihm =>
          intro c e H h
          refine scope_step ((ihG c _ k e H h).post ?_)
          intro ex A1 H1 hq
          cases ex with
          | goto l =>
            obtain ⟨e1, hr, hg⟩ := hq
            simp only [Jump]
            have hg : good (Option.rec (motive := fun _ => E → Heap → α) (ks.jmp l) (x_jump α bad (exec α bad P call n F G) b ks k m) (findLabel b l) e1 H1) := hg
            split
            · rename_i rest hf
              rw [hf] at hg
              exact (ihm rest e1 H1 hg).rep (fun t ht => (hr t ht).symm)
            · rename_i hf
              rw [hf] at hg
              exact ⟨e1, hr, hg⟩
          | _ => exact hq
      exact key F b e H h
end

/-! ### Functions -/

/-- The ends of a body. -/
noncomputable def k_ret (P : Program) (fn : Func) (e : E) (H : Heap) : Option (Value × Heap) :=
  Option.rec (motive := fun _ => Option (Value × Heap)) none (fun v => some (v, H)) (ares P fn.ntmps fn.results (envT e) H)

noncomputable def r_body (P : Program) (call : CallS) (F G : Nat) (fn : Func) (args : List Value) (H : Heap) (c : Code) : Option (Value × Heap) :=
  Bool.rec (motive := fun _ => Option (Value × Heap)) none
    (exec (Option (Value × Heap)) none P call fn.ntmps F G c ⟨k_ret P fn, fun _ _ _ => none, fun _ _ _ => none, fun _ _ _ => none⟩ (k_ret P fn) (argsE args 0 E.none) H)
    (Nat.ble fn.ntmps 256 && Nat.ble args.length fn.ntmps)

noncomputable def r_func (P : Program) (call : CallS) (F G : Nat) (f : FuncId) (args : List Value) (H : Heap) (fn : Func) : Option (Value × Heap) :=
  Bool.rec (motive := fun _ => Option (Value × Heap)) none (Option.rec (motive := fun _ => Option (Value × Heap)) none (r_body P call F G fn args H) fn.body) (entered P f)

/-- The temporaries of a loop, as a tree. -/
noncomputable def eRow (A : Env) (b : Nat) : N16 Value := ⟨A b, A (b + 1), A (b + 2), A (b + 3), A (b + 4), A (b + 5), A (b + 6), A (b + 7), A (b + 8), A (b + 9), A (b + 10), A (b + 11), A (b + 12), A (b + 13), A (b + 14), A (b + 15)⟩
noncomputable def eOf (A : Env) : E := ⟨eRow A 0, eRow A 16, eRow A 32, eRow A 48, eRow A 64, eRow A 80, eRow A 96, eRow A 112, eRow A 128, eRow A 144, eRow A 160, eRow A 176, eRow A 192, eRow A 208, eRow A 224, eRow A 240⟩
theorem dig_at {α : Type} (n : N16 α) : ∀ d : D, n.get d = match d with | .d0 => n.a0 | .d1 => n.a1 | .d2 => n.a2 | .d3 => n.a3 | .d4 => n.a4 | .d5 => n.a5 | .d6 => n.a6 | .d7 => n.a7 | .d8 => n.a8 | .d9 => n.a9 | .d10 => n.a10 | .d11 => n.a11 | .d12 => n.a12 | .d13 => n.a13 | .d14 => n.a14 | .d15 => n.a15 := fun d => by cases d <;> rfl
theorem eRow_get (A : Env) (b : Nat) (d : D) : (eRow A b).get d = A (b + d.num) := by cases d <;> rfl
theorem eOf_get (A : Env) (d : D) : (eOf A).get d = eRow A (16 * d.num) := by cases d <;> rfl
theorem envT_eOf (A : Env) {t : Nat} (ht : t < 256) : envT (eOf A) t = A t := by
  have e1 : ∀ x y : Nat, Nat.div x y = x / y := fun _ _ => rfl
  have e2 : ∀ x y : Nat, Nat.mod x y = x % y := fun _ _ => rfl
  simp only [envT, e1, e2]
  rw [eOf_get, eRow_get, dig_num (by omega), dig_num (by omega)]
  congr 1
  omega

/-- What a yield gives. -/
noncomputable def y_end (l : Nat) (A : Env) (n : Nat) (ps : Array Tmp) (as bd : Code) (st : Option Code) (b : Bool) (H : Heap) : Option (Value × Heap) := some (.bool b, H.set l (.loop A n ps as bd st))
noncomputable def y_body (P : Program) (call : CallS) (F G : Nat) (l : Nat) (A : Env) (n : Nat) (ps : Array Tmp) (as bd : Code) (e : E) (H : Heap) : Option (Value × Heap) :=
  exec (Option (Value × Heap)) none P call n F G bd ⟨fun _ H1 => y_end l A n ps as bd (some .ret) false H1, fun j _ H1 => y_end l A n ps as bd (some (.exit j)) false H1, fun j _ H1 => y_end l A n ps as bd (some (.goto j)) false H1, fun _ _ _ => none⟩
    (fun _ H1 => y_end l A n ps as bd none true H1) e H
noncomputable def r_yield (P : Program) (call : CallS) (F G : Nat) (l : Nat) (args : List Value) (H : Heap) : Option (Value × Heap) :=
  match H.get l with
  | some (.loop A n ps as bd none) =>
    bif Nat.ble n 256 && Nat.beq args.length ps.size then
      exec (Option (Value × Heap)) none P call n F G as ⟨fun _ _ => none, fun _ _ _ => none, fun _ _ _ => none, fun _ _ _ => none⟩ (y_body P call F G l A n ps as bd) (eOf (setPs A ps.toList args)) (H.kill l)
    else none
  | _ => none

theorem r_yield_sound {P : Program} {call : CallS} (hcall : CallSOk P call) {F G : Nat} {l : Nat} {args : List Value} {H H' : Heap} {v : Value} (h : r_yield P call F G l args H = some (v, H')) : YDoes P l args H v H' := by
  unfold r_yield at h
  split at h
  · rename_i A n ps as bd hl
    cases hc : (Nat.ble n 256 && Nat.beq args.length ps.size) with
    | false => rw [hc] at h; cases h
    | true =>
      rw [hc] at h
      simp only [cond_true] at h
      simp only [Bool.and_eq_true, Nat.ble_eq, nbeq, decide_eq_true_eq] at hc
      refine ydoes_of_wp hl hc.2 ?_
      have main := exec_sound (good := fun r : Option (Value × Heap) => r = some (v, H')) (by simp) hc.1 hcall G as _ _ _ (H.kill l) h
      refine (main.post ?_).rep (fun t ht => envT_eOf _ (by omega))
      intro ex A1 H1 hq
      cases ex with
      | normal =>
        obtain ⟨e, hr, hg⟩ := hq
        have body := exec_sound (good := fun r : Option (Value × Heap) => r = some (v, H')) (by simp) hc.1 hcall G bd _ _ _ H1 hg
        refine (body.post ?_).rep (fun t ht => (hr t ht).symm)
        intro ex A2 H2 hq2
        cases ex <;> first
          | (obtain ⟨e2, _, hg2⟩ := hq2
             simp only [y_end, Option.some.injEq, Prod.mk.injEq] at hg2
             obtain ⟨g1, g2⟩ := hg2
             exact ⟨g1.symm, by rw [← g2]; exact .refl _⟩)
          | (obtain ⟨_, _, hx⟩ := hq2; cases hx)
      | ret => obtain ⟨_, _, hx⟩ := hq; cases hx
      | exit j => obtain ⟨_, _, hx⟩ := hq; cases hx
      | goto j => obtain ⟨_, _, hx⟩ := hq; cases hx
      | panic u => obtain ⟨_, _, hx⟩ := hq; cases hx
  · cases h

/-- A body that panics. -/
noncomputable def r_bodyP (P : Program) (call : CallS) (F G : Nat) (fn : Func) (args : List Value) (H : Heap) (c : Code) : Option (Value × Heap) :=
  Bool.rec (motive := fun _ => Option (Value × Heap)) none
    (exec (Option (Value × Heap)) none P call fn.ntmps F G c ⟨fun _ _ => none, fun _ _ _ => none, fun _ _ _ => none, fun v _ H => some (v, H)⟩ (fun _ _ => none) (argsE args 0 E.none) H)
    (Nat.ble fn.ntmps 256 && Nat.ble args.length fn.ntmps)
noncomputable def r_funcP (P : Program) (call : CallS) (F G : Nat) (f : FuncId) (args : List Value) (H : Heap) (fn : Func) : Option (Value × Heap) :=
  Bool.rec (motive := fun _ => Option (Value × Heap)) none (Option.rec (motive := fun _ => Option (Value × Heap)) none (r_bodyP P call F G fn args H) fn.body) (entered P f)

/-- A function entered when its caller leaves, that recovers first thing. -/
noncomputable def d_body (α : Type) (bad : α) (P : Program) (call : CallS) (F G : Nat) (fn : Func) (args : List Value) (r : Value) (k : Heap → α) (H : Heap) : Code → α
  | .seq (.region _ ops false) rest => match ops.toList with
    | o :: l => bif isRec o && Nat.ble fn.ntmps 256 && Nat.ble args.length fn.ntmps && dstOk fn.ntmps o.dst && fn.results.isEmpty then
        x_ops α bad P call fn.ntmps ops ⟨fun _ _ => bad, fun _ _ _ => bad, fun _ _ _ => bad, fun _ _ _ => bad⟩ l (exec α bad P call fn.ntmps F G rest ⟨fun _ H => k H, fun _ _ _ => bad, fun _ _ _ => bad, fun _ _ _ => bad⟩ (fun _ H => k H)) (putT (argsE args 0 E.none) o.dst r) H
      else bad
    | [] => bad
  | _ => bad
noncomputable def d_func (α : Type) (bad : α) (P : Program) (call : CallS) (F G : Nat) (g : FuncId) (args : List Value) (r : Value) (k : Heap → α) (H : Heap) : α :=
  bif entered P g then (match P.funcs[g]? with
    | some fn => (match fn.body with
      | some c => d_body α bad P call F G fn args r k H c
      | none => bad)
    | none => bad) else bad

/-- A function that defers such a function, and nothing else. -/
noncomputable def g_end (P : Program) (call : CallS) (F G : Nat) (fn : Func) (g : FuncId) (args : List Value) (r : Value) (e : E) (H : Heap) : Option (Value × Heap) :=
  d_func (Option (Value × Heap)) none P call F G g args r (fun H2 => k_ret P fn e H2) H
noncomputable def g_rest (P : Program) (call : CallS) (F G : Nat) (fn : Func) (rest : Code) (t : Nat) (e : E) (H : Heap) : Option (Value × Heap) :=
  match envT e t with
  | .func (.func g) xs ys => bif !entered P g then none else exec (Option (Value × Heap)) none P call fn.ntmps F G rest
      ⟨g_end P call F G fn g (xs.toList ++ ys.toList) .nilIface, fun _ _ _ => none, fun _ _ _ => none, fun v e H => g_end P call F G fn g (xs.toList ++ ys.toList) v e H⟩ (g_end P call F G fn g (xs.toList ++ ys.toList) .nilIface) e H
  | _ => none
noncomputable def g_body (P : Program) (call : CallS) (F G : Nat) (fn : Func) (args : List Value) (H : Heap) (c : Code) : Option (Value × Heap) :=
  match c with
  | .seq c0 (.seq (.region _ ops false) rest) => (match ops.toList.getLast? with
    | some o => (match isDef o with
      | some t => bif Nat.ble fn.ntmps 256 && Nat.ble args.length fn.ntmps && Nat.blt t fn.ntmps then
          exec (Option (Value × Heap)) none P call fn.ntmps F G c0 ⟨fun _ _ => none, fun _ _ _ => none, fun _ _ _ => none, fun _ _ _ => none⟩
            (x_ops (Option (Value × Heap)) none P call fn.ntmps ops ⟨fun _ _ => none, fun _ _ _ => none, fun _ _ _ => none, fun _ _ _ => none⟩ ops.toList.dropLast (g_rest P call F G fn rest t)) (argsE args 0 E.none) H
        else none
      | none => none)
    | none => none)
  | _ => none
noncomputable def g_func (P : Program) (call : CallS) (F G : Nat) (f : FuncId) (args : List Value) (H : Heap) (fn : Func) : Option (Value × Heap) :=
  Bool.rec (motive := fun _ => Option (Value × Heap)) none (Option.rec (motive := fun _ => Option (Value × Heap)) none (g_body P call F G fn args H) fn.body) (entered P f)
noncomputable def r_func2 (P : Program) (call : CallS) (F G : Nat) (f : FuncId) (args : List Value) (H : Heap) (fn : Func) : Option (Value × Heap) :=
  Option.rec (motive := fun _ => Option (Value × Heap)) (g_func P call F G f args H fn) some (r_func P call F G f args H fn)

noncomputable def run (P : Program) (known : CallF) (F G : Nat) (k : Nat) : CallS :=
  Nat.rec (motive := fun _ => CallS) ⟨fun _ _ _ => none, fun _ _ _ => none, fun _ _ _ => none⟩
    (fun _ ih => ⟨fun f args H => Option.rec (motive := fun _ => Option (Value × Heap)) (Option.rec (motive := fun _ => Option (Value × Heap)) none (r_func2 P ih F G f args H) P.funcs[f]?) some (known f args H), r_yield P ih F G,
      fun f args H => Option.rec (motive := fun _ => Option (Value × Heap)) none (r_funcP P ih F G f args H) P.funcs[f]?⟩) k

theorem k_ret_res {P : Program} {fn : Func} {A1 : Env} {H1 H' : Heap} {e : E} {v : Value} (hr : Rep fn.ntmps A1 e) (hk : k_ret P fn e H1 = some (v, H')) : ∃ v1, Out.ret v = .ret v1 ∧ ares P fn.ntmps fn.results A1 H1 = some v1 ∧ Less H' H1 := by
  unfold k_ret at hk
  cases ha : ares P fn.ntmps fn.results (envT e) H1 with
  | none => rw [ha] at hk; cases hk
  | some u =>
    rw [ha] at hk
    have hk : some (u, H1) = some (v, H') := hk
    simp only [Option.some.injEq, Prod.mk.injEq] at hk
    obtain ⟨e1, e2⟩ := hk
    rw [← e1, ← e2]
    refine ⟨_, rfl, ?_, .refl _⟩
    rw [← ha]
    have h1 : ∀ r, ares1 P fn.ntmps A1 H1 r = ares1 P fn.ntmps (envT e) H1 r := fun r => by
      cases r with
      | tmp t =>
        simp only [ares1]
        by_cases ht : t < fn.ntmps
        · simp only [ht, if_true, hr t ht]
        · simp only [ht, if_false]
      | cell a t =>
        simp only [ares1]
        by_cases ht : a < fn.ntmps
        · simp only [ht, if_true, hr a ht]
        · simp only [ht, if_false]
    unfold ares
    rw [show ares1 P fn.ntmps A1 H1 = ares1 P fn.ntmps (envT e) H1 from funext h1]

theorem r_body_sound {P : Program} {call : CallS} (hcall : CallSOk P call) {F G : Nat} {f : FuncId} {fn : Func} {c : Code} {args : List Value} {H H' : Heap} {v : Value} (hf : P.funcs[f]? = some fn) (hb : fn.body = some c)
    (h : r_body P call F G fn args H c = some (v, H')) : Does P f args H (.ret v) H' := by
  unfold r_body at h
  cases hc : (Nat.ble fn.ntmps 256 && Nat.ble args.length fn.ntmps) with
  | false => rw [hc] at h; cases h
  | true =>
    rw [hc] at h
    simp only [Bool.and_eq_true, Nat.ble_eq] at hc
    have en : args.length + (fn.ntmps - args.length) = fn.ntmps := by omega
    refine does_of_wp hf hb ?_
    rw [en]
    have main := exec_sound (good := fun r : Option (Value × Heap) => r = some (v, H')) (by simp) hc.1 hcall G c _ _ _ H h
    have hres : ∀ (A1 : Env) (H1 : Heap), (∃ e, Rep fn.ntmps A1 e ∧ k_ret P fn e H1 = some (v, H')) → ∃ v1, Out.ret v = .ret v1 ∧ ares P fn.ntmps fn.results A1 H1 = some v1 ∧ Less H' H1 := fun A1 H1 ⟨e, hr, hk⟩ => k_ret_res hr hk
    refine (main.post ?_).rep (fun t ht => envT_args (by omega) t (by omega))
    intro ex A1 H1 hq
    cases ex with
    | normal => exact hres A1 H1 hq
    | ret => exact hres A1 H1 hq
    | exit j => obtain ⟨_, _, hx⟩ := hq; cases hx
    | goto j => obtain ⟨_, _, hx⟩ := hq; cases hx
    | panic u => obtain ⟨_, _, hx⟩ := hq; cases hx

theorem AOps.post {P : Program} {n : Nat} {ops : Array Oper} {l : List Oper} {Q Q' : Ex → Env → Heap → Prop} {A : Env} {H : Heap} (h : ∀ e A H, Q e A H → Q' e A H) (hw : AOps P n ops l Q A H) : AOps P n ops l Q' A H := fun z ρ w a hs he =>
  wpList_mono_post (fun e a' w' ⟨e', ρ', A', H', hq, h1⟩ => ⟨e', ρ', A', H', h _ _ _ hq, h1⟩) _ _ _ (hw z ρ w a hs he)

theorem r_bodyP_sound {P : Program} {call : CallS} (hcall : CallSOk P call) {F G : Nat} {f : FuncId} {fn : Func} {c : Code} {args : List Value} {H H' : Heap} {v : Value} (hf : P.funcs[f]? = some fn) (hb : fn.body = some c)
    (h : r_bodyP P call F G fn args H c = some (v, H')) : Does P f args H (.pan v) H' := by
  unfold r_bodyP at h
  cases hc : (Nat.ble fn.ntmps 256 && Nat.ble args.length fn.ntmps) with
  | false => rw [hc] at h; cases h
  | true =>
    rw [hc] at h
    simp only [Bool.and_eq_true, Nat.ble_eq] at hc
    have en : args.length + (fn.ntmps - args.length) = fn.ntmps := by omega
    refine does_of_wp hf hb ?_
    rw [en]
    have main := exec_sound (good := fun r : Option (Value × Heap) => r = some (v, H')) (by simp) hc.1 hcall G c _ _ _ H h
    refine (main.post ?_).rep (fun t ht => envT_args (by omega) t (by omega))
    intro ex A1 H1 hq
    cases ex with
    | normal => obtain ⟨_, _, hx⟩ := hq; cases hx
    | ret => obtain ⟨_, _, hx⟩ := hq; cases hx
    | exit j => obtain ⟨_, _, hx⟩ := hq; cases hx
    | goto j => obtain ⟨_, _, hx⟩ := hq; cases hx
    | panic u =>
      obtain ⟨_, _, hx⟩ := hq
      simp only [Option.some.injEq, Prod.mk.injEq] at hx
      obtain ⟨e1, e2⟩ := hx
      rw [← e1, ← e2]
      exact ⟨rfl, .refl _⟩

theorem d_func_sound {α : Type} {bad : α} {good : α → Prop} (hbad : ¬ good bad) {P : Program} {call : CallS} (hcall : CallSOk P call) {F G : Nat} {g : FuncId} {args : List Value} {r : Value} {k : Heap → α} {H : Heap}
    (h : good (d_func α bad P call F G g args r k H)) : DDoes P g args H r (fun H2 => good (k H2)) := by
  unfold d_func at h
  cases he : entered P g with
  | false => rw [he] at h; exact absurd h hbad
  | true =>
    rw [he] at h
    simp only [cond_true] at h
    split at h
    · rename_i fn hf
      split at h
      · rename_i c hb
        unfold d_body at h
        split at h
        · rename_i id ops rest
          split at h
          · rename_i o l hl
            cases hc : (isRec o && Nat.ble fn.ntmps 256 && Nat.ble args.length fn.ntmps && dstOk fn.ntmps o.dst && fn.results.isEmpty) with
            | false => rw [hc] at h; exact absurd h hbad
            | true =>
            rw [hc] at h
            simp only [Bool.and_eq_true, Nat.ble_eq] at hc
            obtain ⟨⟨⟨⟨h1, h2⟩, h3⟩, h4⟩, h5⟩ := hc
            have en : args.length + (fn.ntmps - args.length) = fn.ntmps := by omega
            refine ddoes_of_wp hf hb hl h1 (by rw [en]; exact h4) (by simpa using h5) ?_
            rw [en]
            have main := x_ops_sound (n := fn.ntmps) hbad h2 hcall l _ H h
            have d256 : dstOk 256 o.dst = true := by
              cases hd : o.dst with
              | none => rfl
              | some d => rw [hd] at h4; simp only [dstOk, Nat.blt_eq] at h4 ⊢; omega
            refine (main.post ?_).rep (fun t ht => ?_)
            · intro ex A1 H1 hq
              cases ex with
              | normal =>
                obtain ⟨e, hr, hg⟩ := hq
                have body := exec_sound hbad h2 hcall G rest _ _ e H1 hg
                refine (body.post ?_).rep (fun t ht => (hr t ht).symm)
                intro ex A2 H2 hq2
                cases ex <;> obtain ⟨_, _, hx⟩ := hq2 <;> first
                  | exact hx
                  | exact absurd hx hbad
              | _ => obtain ⟨_, _, hx⟩ := hq; exact absurd hx hbad
            · rw [envT_put _ _ d256 t (by omega)]
              cases o.dst with
              | none => exact envT_args (by omega) t (by omega)
              | some d =>
                simp only [updO]
                by_cases hd : t = d
                · subst hd; simp
                · rw [upd_ne _ _ hd, upd_ne _ _ hd]; exact envT_args (by omega) t (by omega)
          · exact absurd h hbad
        · exact absurd h hbad
      · exact absurd h hbad
    · exact absurd h hbad

theorem g_body_sound {P : Program} {call : CallS} (hcall : CallSOk P call) {F G : Nat} {f : FuncId} {fn : Func} {c : Code} {args : List Value} {H H' : Heap} {v : Value} (hf : P.funcs[f]? = some fn) (hb : fn.body = some c)
    (h : g_body P call F G fn args H c = some (v, H')) : Does P f args H (.ret v) H' := by
  unfold g_body at h
  split at h
  · rename_i c0 id ops rest
    split at h
    · rename_i o hlast
      split at h
      · rename_i t hd
        cases hc : (Nat.ble fn.ntmps 256 && Nat.ble args.length fn.ntmps && Nat.blt t fn.ntmps) with
        | false => rw [hc] at h; cases h
        | true =>
        rw [hc] at h
        simp only [Bool.and_eq_true, Nat.ble_eq, Nat.blt_eq] at hc
        obtain ⟨⟨h1, h2⟩, h3⟩ := hc
        have en : args.length + (fn.ntmps - args.length) = fn.ntmps := by omega
        have hbad : ¬ (fun r : Option (Value × Heap) => r = some (v, H')) none := by simp
        refine guarded_does hf hb (init := ops.toList.dropLast) (o := o) ?_ hd (by rw [en]; exact h3) ?_
        · obtain ⟨ys, hys⟩ := List.getLast?_eq_some_iff.1 hlast
          rw [hys, List.dropLast_concat]
        · rw [en]
          have main := exec_sound (good := fun r : Option (Value × Heap) => r = some (v, H')) hbad h1 hcall G c0 _ _ _ H h
          refine (main.post ?_).rep (fun t ht => envT_args (by omega) t (by omega))
          intro ex A1 H1 hq
          cases ex with
          | normal =>
            obtain ⟨e, hr, hg⟩ := hq
            have hops := x_ops_sound (good := fun r : Option (Value × Heap) => r = some (v, H')) (n := fn.ntmps) hbad h1 hcall ops.toList.dropLast e H1 hg
            refine (hops.post ?_).rep (fun t ht => (hr t ht).symm)
            intro ex A2 H2 hq2
            cases ex with
            | normal =>
              obtain ⟨e2, hr2, hg2⟩ := hq2
              unfold g_rest at hg2
              split at hg2
              · rename_i g xs ys eg
                have hentered : entered P g = true := by
                  cases hh : entered P g with
                  | true => rfl
                  | false => rw [hh] at hg2; cases hg2
                rw [hentered] at hg2
                refine ⟨g, xs, ys, (hr2 t h3).trans eg, hentered, ?_⟩
                have body := exec_sound (good := fun r : Option (Value × Heap) => r = some (v, H')) hbad h1 hcall G rest _ _ e2 H2 hg2
                refine (body.post ?_).rep (fun t ht => (hr2 t ht).symm)
                have hend : ∀ (r : Value) (A3 : Env) (H3 : Heap), (∃ e3, Rep fn.ntmps A3 e3 ∧ g_end P call F G fn g (xs.toList ++ ys.toList) r e3 H3 = some (v, H')) →
                    DDoes P g (xs.toList ++ ys.toList) H3 r (fun H2 => ∃ v1, Out.ret v = .ret v1 ∧ ares P fn.ntmps fn.results A3 H2 = some v1 ∧ Less H' H2) := by
                  rintro r A3 H3 ⟨e3, hr3, hg3⟩
                  have := d_func_sound (good := fun r : Option (Value × Heap) => r = some (v, H')) hbad hcall hg3
                  intro z ρ w args' u u' r' q1 q2 q3 q4
                  refine (this z ρ w args' u u' r' q1 q2 q3 q4).mono ?_
                  rintro e4 u4 w4 ⟨k1, k2, ρ', H4, k3, k4, k5⟩
                  exact ⟨k1, k2, ρ', H4, k_ret_res hr3 k3, k4, k5⟩
                intro ex A3 H3 hq3
                cases ex with
                | normal => exact hend _ A3 H3 hq3
                | ret => exact hend _ A3 H3 hq3
                | panic u => exact hend _ A3 H3 hq3
                | exit j => obtain ⟨_, _, hx⟩ := hq3; cases hx
                | goto j => obtain ⟨_, _, hx⟩ := hq3; cases hx
              · cases hg2
            | _ => obtain ⟨_, _, hx⟩ := hq2; cases hx
          | _ => obtain ⟨_, _, hx⟩ := hq; cases hx
      · cases h
    · cases h
  · cases h

theorem run_sound {P : Program} {known : CallF} (hk : CallOk P known) {F G : Nat} : ∀ k, CallSOk P (run P known F G k) := by
  intro k
  induction k with
  | zero => exact ⟨fun f args H v H' h => (by cases h), fun l args H v H' h => (by cases h), fun f args H v H' h => (by cases h)⟩
  | succ k ih =>
    refine ⟨fun f args H v H' h => ?_, fun l args H v H' h => r_yield_sound ih h, fun f args H v H' h => ?_⟩
    · have h : Option.rec (motive := fun _ => Option (Value × Heap)) (Option.rec (motive := fun _ => Option (Value × Heap)) none (r_func2 P (run P known F G k) F G f args H) P.funcs[f]?) some (known f args H) = some (v, H') := h
      cases hkn : known f args H with
      | some r => rw [hkn] at h; cases h; exact hk f args H v H' hkn
      | none =>
        rw [hkn] at h
        cases hf : P.funcs[f]? with
        | none => rw [hf] at h; cases h
        | some fn =>
          rw [hf] at h
          have h : r_func2 P (run P known F G k) F G f args H fn = some (v, H') := h
          unfold r_func2 at h
          cases hr : r_func P (run P known F G k) F G f args H fn with
          | some q =>
            rw [hr] at h
            cases h
            unfold r_func at hr
            cases he : entered P f with
            | false => rw [he] at hr; cases hr
            | true =>
              rw [he] at hr
              cases hb : fn.body with
              | none => rw [hb] at hr; cases hr
              | some c => rw [hb] at hr; exact .inl ⟨he, r_body_sound ih hf hb hr⟩
          | none =>
            rw [hr] at h
            have h : g_func P (run P known F G k) F G f args H fn = some (v, H') := h
            unfold g_func at h
            cases he : entered P f with
            | false => rw [he] at h; cases h
            | true =>
              rw [he] at h
              cases hb : fn.body with
              | none => rw [hb] at h; cases h
              | some c => rw [hb] at h; exact .inl ⟨he, g_body_sound ih hf hb h⟩
    · have h : Option.rec (motive := fun _ => Option (Value × Heap)) none (r_funcP P (run P known F G k) F G f args H) P.funcs[f]? = some (v, H') := h
      cases hf : P.funcs[f]? with
      | none => rw [hf] at h; cases h
      | some fn =>
        rw [hf] at h
        have h : r_funcP P (run P known F G k) F G f args H fn = some (v, H') := h
        unfold r_funcP at h
        cases he : entered P f with
        | false => rw [he] at h; cases h
        | true =>
          rw [he] at h
          cases hb : fn.body with
          | none => rw [hb] at h; cases h
          | some c => rw [hb] at h; exact ⟨rfl, r_bodyP_sound ih hf hb h⟩

/-- What is known: entries of the model. -/
noncomputable def xknown (xt : FuncId → Option Xk) : CallF := fun f args H =>
  match xt f with
  | some k => (k.val args).map fun v => (v, H)
  | none => none

theorem xknown_ok {P : Program} {xt : FuncId → Option Xk} (h : ∀ f k, xt f = some k → IsExt P f k) : CallOk P (xknown xt) := by
  intro f args H v H' hr
  unfold xknown at hr
  split at hr
  · rename_i k hk
    simp only [Option.map_eq_some_iff, Prod.mk.injEq] at hr
    obtain ⟨u, hu, rfl, rfl⟩ := hr
    exact .inr (ext_does (h f k hk) hu)
  · cases hr

theorem none_known {P : Program} : CallOk P (fun _ _ _ => none) := fun f args H v H' h => by cases h
end Go.Ab
/- What a closed call does over the tables alone, it does over any heap that has them, its blocks' numbers moved up. -/
set_option linter.unusedVariables false
namespace Go.Ab

/-- A block's number, moved. -/
def shN (G δ id : Nat) : Nat := bif Nat.blt id G then id else id + δ

noncomputable def shV (G δ : Nat) : Nat → Value → Value
  | 0, v => v
  | f + 1, v => match v with
    | .pointer (some a) => .pointer (some ⟨shN G δ a.block, a.off, a.spot⟩)
    | .slice (some a) l c => .slice (some ⟨shN G δ a.block, a.off, a.spot⟩) l c
    | .map (some r) => .map (some (shN G δ r))
    | .iface t v => .iface t (shV G δ f v)
    | .agg xs => .agg (xs.toList.map (shV G δ f)).toArray
    | .tuple xs => .tuple (xs.toList.map (shV G δ f)).toArray
    | .func fn xs ys => .func fn (xs.toList.map (shV G δ f)).toArray (ys.toList.map (shV G δ f)).toArray
    | v => v

/-- Deep enough. -/
noncomputable def okD : Nat → Value → Bool
  | 0, v => plain v
  | f + 1, v => match v with
    | .iface _ v => okD f v
    | .agg xs => xs.toList.all (okD f)
    | .tuple xs => xs.toList.all (okD f)
    | .func fn xs ys => noYield fn && xs.toList.all (okD f) && ys.toList.all (okD f)
    | _ => true

theorem shV_plain (G δ : Nat) : ∀ (f : Nat) (v : Value), plain v = true → shV G δ f v = v
  | 0, v, _ => rfl
  | f + 1, v, h => by
    unfold shV
    split <;> first | (simp [plain] at h; done) | rfl

theorem shV_V {ρ ρ' : Ren} {G δ : Nat} (hr : ∀ id i, ρ id = some i → ρ' (shN G δ id) = some i) : ∀ (f : Nat) {v v' : Value}, V ρ v v' → okD f v = true → V ρ' (shV G δ f v) v' := by
  intro f
  induction f with
  | zero =>
    intro v v' h hk
    rw [h.plain_eq hk]
    exact .same _ hk
  | succ f ih =>
    intro v v' h hk
    have arr : ∀ (xs xs' : Array Value), xs.size = xs'.size → (∀ (j : Nat) x x', xs[j]? = some x → xs'[j]? = some x' → V ρ x x') → xs.toList.all (okD f) = true →
        (xs.toList.map (shV G δ f)).toArray.size = xs'.size ∧ ∀ (j : Nat) x x', (xs.toList.map (shV G δ f)).toArray[j]? = some x → xs'[j]? = some x' → V ρ' x x' := by
      intro xs xs' h1 h2 h3
      refine ⟨by simp [h1], fun j x x' e e' => ?_⟩
      simp only [List.getElem?_toArray, List.getElem?_map, Array.getElem?_toList, Option.map_eq_some_iff] at e
      obtain ⟨y, hy, rfl⟩ := e
      exact ih (h2 j y x' hy e') (List.all_eq_true.1 h3 y (by simpa using Array.mem_of_getElem? hy))
    cases h with
    | same v hp => rw [shV_plain G δ (f + 1) v hp]; exact .same v hp
    | ptr id off i h => exact .ptr _ off i (hr id i h)
    | slice id off len cap cap' i a' h h1 h2 h0 h3 h4 => exact .slice _ off len cap cap' i a' (hr id i h) h1 h2 h0 h3 h4
    | map id i h => exact .map _ i (hr id i h)
    | func fn xs ys xs' ys' hn h1 h2 h3 h4 =>
      simp only [okD, Bool.and_eq_true] at hk
      obtain ⟨p1, p2⟩ := arr xs xs' h1 h3 hk.1.2
      obtain ⟨q1, q2⟩ := arr ys ys' h2 h4 hk.2
      exact .func fn _ _ xs' ys' hn p1 q1 p2 q2
    | yield l i h => simp [okD, noYield] at hk
    | iface t v v' h => exact .iface t _ v' (ih h hk)
    | agg xs xs' h1 h2 =>
      obtain ⟨p1, p2⟩ := arr xs xs' h1 h2 hk
      exact .agg _ xs' p1 p2
    | tuple xs xs' h1 h2 =>
      obtain ⟨p1, p2⟩ := arr xs xs' h1 h2 hk
      exact .tuple _ xs' p1 p2

/-- Cells that a call leaves: where they lie in the heap that it leaves; what they hold, the blocks numbered anew. -/
structure Row where
  src : Nat
  c : List Value
  e : TypeId
  ro : Bool

noncomputable def Row.blk (G δ : Nat) (r : Row) : Blk := .cells (r.c.map (shV G δ 6)) r.e r.ro

noncomputable def pushR (G δ : Nat) : List Row → Heap → Heap
  | [], H => H
  | r :: rs, H => pushR G δ rs (H.push (r.blk G δ))

/-- A heap with such rows more. -/
noncomputable def addR (G : Nat) (rs : List Row) (H : Heap) : Heap := pushR G (H.next - G) rs H

theorem pushR_next {G δ : Nat} : ∀ (rs : List Row) (H : Heap), (pushR G δ rs H).next = H.next + rs.length
  | [], H => rfl
  | r :: rs, H => by simp only [pushR, pushR_next rs, Heap.next_push, List.length_cons]; omega

theorem pushR_get {G δ : Nat} : ∀ (rs : List Row) (H : Heap) (id : Nat), (pushR G δ rs H).get id = if H.next ≤ id ∧ id < H.next + rs.length then (rs[id - H.next]?).map (Row.blk G δ) else H.get id
  | [], H, id => by simp only [pushR, List.length_nil]; rw [if_neg (by omega)]
  | r :: rs, H, id => by
    simp only [pushR, pushR_get rs, Heap.next_push, List.length_cons, Heap.get_push]
    by_cases h1 : id = H.next
    · subst h1; rw [if_neg (by omega), if_pos rfl, if_pos ⟨by omega, by omega⟩]; simp
    · by_cases h2 : H.next + 1 ≤ id ∧ id < H.next + 1 + rs.length
      · rw [if_pos h2, if_pos ⟨by omega, by omega⟩, show id - H.next = (id - (H.next + 1)) + 1 by omega]; simp
      · rw [if_neg h2, if_neg h1, if_neg (by omega)]

/-- Which block of the heap that was left a new number means. -/
def sigma (G : Nat) (rs : List Row) (b : Nat) : Option Nat := bif Nat.blt b G then some b else (rs[b - G]?).map (·.src)

noncomputable def isId (o : Option Nat) (a : Nat) : Bool := match o with | some b => Nat.beq b a | none => false
theorem isId_eq {o : Option Nat} {a : Nat} (h : isId o a = true) : o = some a := by
  cases o with
  | none => cases h
  | some b => simp only [isId, nbeq, decide_eq_true_eq] at h; rw [h]

noncomputable def noSpot (a : Addr) : Bool := match a.spot with | none => true | some _ => false

/-- The same value, its blocks numbered anew. -/
noncomputable def mtV (σ : Nat → Option Nat) : Nat → Value → Value → Bool
  | 0, v, u => plain v && beqV 8 v u
  | f + 1, v, u => match v, u with
    | .pointer (some a), .pointer (some b) => isId (σ b.block) a.block && Nat.beq a.off b.off && noSpot b
    | .slice (some a) l c, .slice (some b) l' c' => isId (σ b.block) a.block && Nat.beq a.off b.off && noSpot b && Nat.beq l l' && Nat.beq c c'
    | .iface t v, .iface t' u => Nat.beq t t' && mtV σ f v u
    | .agg xs, .agg ys => beqL (mtV σ f) xs.toList ys.toList
    | .tuple xs, .tuple ys => beqL (mtV σ f) xs.toList ys.toList
    | v, u => plain v && beqV 8 v u

theorem beqL_get {eq : Value → Value → Bool} : ∀ {xs ys : List Value}, beqL eq xs ys = true → xs.length = ys.length ∧ ∀ (j : Nat) x y, xs[j]? = some x → ys[j]? = some y → eq x y = true
  | [], [], _ => ⟨rfl, fun j x y h => by simp at h⟩
  | x :: xs, y :: ys, h => by
    simp only [beqL, Bool.and_eq_true] at h
    obtain ⟨h1, h2⟩ := beqL_get h.2
    refine ⟨by simp [h1], fun j a b ha hb => ?_⟩
    cases j with
    | zero => simp at ha hb; subst ha; subst hb; exact h.1
    | succ j => exact h2 j a b (by simpa using ha) (by simpa using hb)
  | [], _ :: _, h => by simp [beqL] at h
  | _ :: _, [], h => by simp [beqL] at h

theorem mtV_V {σ : Nat → Option Nat} {ρ ρ' : Ren} (hr : ∀ a b i, σ b = some a → ρ a = some i → ρ' b = some i) : ∀ (f : Nat) {v u v' : Value}, mtV σ f v u = true → V ρ v v' → V ρ' u v' := by
  intro f
  have pl : ∀ {v u v' : Value}, (plain v && beqV 8 v u) = true → V ρ v v' → V ρ' u v' := fun h hv => by
    simp only [Bool.and_eq_true] at h
    rw [← beqV_eq 8 _ _ h.2, hv.plain_eq h.1]
    exact .same _ h.1
  induction f with
  | zero => intro v u v' h hv; exact pl h hv
  | succ f ih =>
    intro v u v' h hv
    have arr : ∀ (xs ys xs' : Array Value), xs.size = xs'.size → (∀ (j : Nat) x x', xs[j]? = some x → xs'[j]? = some x' → V ρ x x') → beqL (mtV σ f) xs.toList ys.toList = true →
        ys.size = xs'.size ∧ ∀ (j : Nat) x x', ys[j]? = some x → xs'[j]? = some x' → V ρ' x x' := by
      intro xs ys xs' h1 h2 h3
      obtain ⟨g1, g2⟩ := beqL_get h3
      simp only [Array.length_toList] at g1
      refine ⟨by omega, fun j x x' e e' => ?_⟩
      have hj : j < xs.size := by rw [h1]; exact (Array.getElem?_eq_some_iff.1 e').1
      exact ih (g2 j xs[j] x (by simp [hj]) (by simpa using e)) (h2 j _ x' (Array.getElem?_eq_getElem hj) e')
    unfold mtV at h
    split at h
    · rename_i a b
      simp only [Bool.and_eq_true, nbeq, decide_eq_true_eq] at h
      obtain ⟨⟨h1, h2⟩, h3⟩ := h
      obtain ⟨i, g1, g2, g3⟩ := hv.ptr_inv
      rw [g3, h2]
      obtain ⟨b0, bo, bs⟩ := b
      have : bs = none := by cases bs with | none => rfl | some _ => cases h3
      subst this
      exact .ptr b0 bo i (hr _ _ i (isId_eq h1) g1)
    · rename_i a l c b l' c'
      simp only [Bool.and_eq_true, nbeq, decide_eq_true_eq] at h
      obtain ⟨⟨⟨⟨h1, h2⟩, h3⟩, h4⟩, h5⟩ := h
      obtain ⟨i, a', cap', g1, g2, g3, g4, g5, g0, g6, g7⟩ := hv.slice_inv
      subst h4; subst h5
      rw [g3]
      obtain ⟨b0, bo, bs⟩ := b
      have : bs = none := by cases bs with | none => rfl | some _ => cases h3
      subst this
      simp only at h2
      rw [h2] at g4 g6
      exact .slice b0 bo l c cap' i a' (hr _ _ i (isId_eq h1) g1) g4 g5 g0 g6 g7
    · rename_i t v0 t' u0
      simp only [Bool.and_eq_true, nbeq, decide_eq_true_eq] at h
      obtain ⟨rfl, h2⟩ := h
      cases hv with
      | same _ hp => simp [plain] at hp
      | iface _ _ v1 hv1 => exact .iface t u0 v1 (ih h2 hv1)
    · rename_i xs ys
      cases hv with
      | same _ hp => simp [plain] at hp
      | agg _ xs' h1 h2 => obtain ⟨p1, p2⟩ := arr xs ys xs' h1 h2 h; exact .agg ys xs' p1 p2
    · rename_i xs ys
      cases hv with
      | same _ hp => simp [plain] at hp
      | tuple _ xs' h1 h2 => obtain ⟨p1, p2⟩ := arr xs ys xs' h1 h2 h; exact .tuple ys xs' p1 p2
    · exact pl h hv

/-- What is asked of the tables: they may not be written, they hold no address. -/
def TabOk (G : Nat) (B : Heap) : Prop := B.next = G ∧ ∀ id b, B.get id = some b → ∃ c e, b = .cells c e true ∧ c.all plain = true

/-- What is asked of the rows. -/
structure RowsOk (G : Nat) (H1 : Heap) (rs : List Row) : Prop where
  row : ∀ (k : Nat) (r : Row), rs[k]? = some r → G ≤ r.src ∧ r.c.all (okD 6) = true ∧ ∃ c1, H1.get r.src = some (.cells c1 r.e r.ro) ∧ beqL (mtV (sigma G rs) 6) c1 r.c = true
  inj : ∀ (j k : Nat) (r r' : Row), rs[j]? = some r → rs[k]? = some r' → j ≠ k → r.src ≠ r'.src

theorem BlkRel.turn {P : Program} {ρ ρ' : Ren} {i : Info} {w : World} {c u : List Value} {e : TypeId} {ro : Bool} (h : BlkRel P ρ i w (.cells c e ro)) (hl : u.length = c.length)
    (hv : ∀ (j : Nat) x y z, c[j]? = some x → u[j]? = some y → V ρ x z → V ρ' y z) : BlkRel P ρ' i w (.cells u e ro) := by
  have hx : ∀ (j : Nat) y, u[j]? = some y → ∃ x, c[j]? = some x := fun j y hj => by
    have : j < c.length := by rw [← hl]; exact (List.getElem?_eq_some_iff.1 hj).1
    exact ⟨c[j], List.getElem?_eq_getElem this⟩
  cases ro with
  | true =>
    refine ⟨h.1, fun j y hj => ?_⟩
    obtain ⟨x, hxj⟩ := hx j y hj
    obtain ⟨z, h1, h2⟩ := h.2 j x hxj
    exact ⟨z, h1, hv j x y z hxj hj h2⟩
  | false =>
    obtain ⟨cur, fz, hh, h1, h2, h3, h4, h5, h6, h7⟩ := h
    refine ⟨cur, fz, hh, h1, h2, by omega, fun j y hj => ?_, h5, by rw [hl]; exact h6, h7⟩
    obtain ⟨x, hxj⟩ := hx j y hj
    obtain ⟨z, g1, g2⟩ := h4 j x hxj
    exact ⟨z, g1, hv j x y z hxj hj g2⟩

theorem V.closed_eq {ρ : Ren} {v v' : Value} (h : V ρ v v') (hc : closedV v = true) : v' = v := by
  have arr : ∀ xs xs' : Array Value, xs.all Ab.plain = true → xs.size = xs'.size → (∀ (j : Nat) x x', xs[j]? = some x → xs'[j]? = some x' → V ρ x x') → xs' = xs := fun xs xs' hx hs hv => by
    apply Array.ext hs.symm
    intro j h1 h2
    have := hv j xs[j] xs'[j] (Array.getElem?_eq_getElem h2) (Array.getElem?_eq_getElem h1)
    exact this.plain_eq (Array.all_eq_true_iff_forall_mem.1 hx _ (Array.getElem_mem h2))
  cases h with
  | same v hp => rfl
  | agg xs xs' h1 h2 => rw [arr xs xs' hc h1 h2]
  | tuple xs xs' h1 h2 => rw [arr xs xs' hc h1 h2]
  | iface t v v' h => rw [h.plain_eq hc]
  | _ => simp [closedV, Ab.plain] at hc

theorem reloc {P : Program} {f : FuncId} {args : List Value} {v u : Value} {B H1 : Heap} (hB : TabOk P.globals.size B) (hd : Does P f args B (.ret v) H1) (ha : args.all closedV = true)
    {rs : List Row} (hv : mtV (sigma P.globals.size rs) 6 v u = true) (hu : okD 6 u = true) (hrs : RowsOk P.globals.size H1 rs) (H : Heap) (hH : ∀ id b, B.get id = some b → H.get id = some b) :
    Does P f args H (.ret (shV P.globals.size (H.next - P.globals.size) 6 u)) (addR P.globals.size rs H) := by
  intro ρ w args' hs hargs
  obtain ⟨hBn, hBt⟩ := hB
  have hG : P.globals.size ≤ H.next := by
    rcases Nat.eq_zero_or_pos P.globals.size with h | h
    · omega
    · obtain ⟨i, hi, _⟩ := hs.glob (P.globals.size - 1) (by omega)
      have := hs.dom _ _ hi
      omega
  have hargs0 : VL (restr ρ P.globals.size) args args' := ⟨hargs.1, fun j x x' e e' => by
    have hp : closedV x = true := List.all_eq_true.1 ha x (List.mem_of_getElem? e)
    rw [(hargs.2 j x x' e e').closed_eq hp]
    exact .closed hp⟩
  have hsim : Sim P (restr ρ P.globals.size) B w := by
    refine ⟨fun id j h => by rw [hBn]; exact (restr_some h).1, fun id b i hb hi => ?_, fun id1 id2 b1 b2 i1 i2 h1 h2 h3 h4 h5 => ?_, fun g hg => ?_⟩
    · obtain ⟨c, e, rfl, hc⟩ := hBt id b hb
      have := hs.live id _ i (hH id _ hb) (restr_some hi).2
      refine ⟨this.1, fun j u hj => ?_⟩
      obtain ⟨u', h1, h2⟩ := this.2 j u hj
      have hp : plain u = true := List.all_eq_true.1 hc u (List.mem_of_getElem? hj)
      rw [h2.plain_eq hp] at h1
      exact ⟨u, h1, .same u hp⟩
    · obtain ⟨c, e, rfl, _⟩ := hBt id1 b1 h1
      cases h5
    · obtain ⟨j, hj, e⟩ := hs.glob g hg
      exact ⟨j, restr_mk hg hj, e⟩
  refine (hd _ w args' hsim hargs0).mono ?_
  rintro e w' ⟨ρ1, ho, hst, hs1⟩
  have hnro : ∀ id b, B.get id = some b → b.ro = true := fun id b h => by obtain ⟨c, e, rfl, _⟩ := hBt id b h; rfl
  have hsame : ∀ b, b < w.heap.size → w'.heap[b]? = w.heap[b]? := fun b hb => hst.frame b hb (fun id i bl _ h2 h3 => by rw [hnro id bl h2] at h3; cases h3)
  have hnew : ∀ id i, ρ1 id = some i → P.globals.size ≤ id → w.heap.size ≤ i.at_.block := fun id i h hid => by
    have hn : restr ρ P.globals.size id = none := by unfold restr; rw [if_neg (by omega)]
    rcases (hst.fresh id i h hn).2 with h | ⟨id0, i0, b0, _, _, h3, h4⟩
    · exact h
    · rw [hnro id0 b0 h3] at h4; cases h4
  have hblt : ∀ id, Nat.blt id P.globals.size = decide (id < P.globals.size) := fun id => by
    cases hb : Nat.blt id P.globals.size with
    | false =>
      by_cases h : id < P.globals.size
      · have : Nat.blt id P.globals.size = true := by simpa using h
        rw [hb] at this; cases this
      · simp [h]
    | true => simp only [Nat.blt_eq] at hb; simp [hb]
  generalize hδ : H.next - P.globals.size = δ
  have hsh : ∀ id, shN P.globals.size δ id = if id < P.globals.size then id else id + δ := fun id => by
    unfold shN; rw [hblt]; by_cases h : id < P.globals.size <;> simp [h]
  -- the blocks by their new numbers
  let ρc : Ren := fun b => (sigma P.globals.size rs b).bind ρ1
  let ρ' : Ren := fun id => if id < H.next then ρ id else ρc (id - δ)
  have hc1 : ∀ a b i, sigma P.globals.size rs b = some a → ρ1 a = some i → ρc b = some i := fun a b i h h' => by simp only [ρc, h, Option.bind_some, h']
  have hcin : ∀ b i, ρc b = some i → P.globals.size ≤ b → ∃ r, rs[b - P.globals.size]? = some r ∧ ρ1 r.src = some i := fun b i h hb => by
    simp only [ρc, sigma, hblt, show ¬ b < P.globals.size by omega, decide_false, cond_false] at h
    cases hr : rs[b - P.globals.size]? with
    | none => rw [hr] at h; cases h
    | some r => rw [hr] at h; exact ⟨r, rfl, h⟩
  have hmap : ∀ b i, ρc b = some i → ρ' (shN P.globals.size δ b) = some i := fun b i h => by
    rw [hsh]
    by_cases hb : b < P.globals.size
    · simp only [hb, if_true, ρ']
      rw [if_pos (by omega)]
      simp only [ρc, sigma, hblt, hb, decide_true, cond_true, Option.bind_some] at h
      obtain ⟨i0, hi0, _⟩ := hs.glob b hb
      have := hst.mono b i0 (restr_mk hb hi0)
      rw [h] at this
      cases this
      exact hi0
    · simp only [hb, if_false, ρ']
      rw [if_neg (by omega), show b + δ - δ = b by omega]
      exact h
  have hval : ∀ {x y z : Value}, mtV (sigma P.globals.size rs) 6 x y = true → okD 6 y = true → V ρ1 x z → V ρ' (shV P.globals.size δ 6 y) z := fun h1 h2 h3 => shV_V hmap 6 (mtV_V hc1 6 h1 h3) h2
  have hsub : Sub ρ ρ' := fun id i h => by
    simp only [ρ']
    rw [if_pos (hs.dom id i h)]
    exact h
  have hget : ∀ id, (addR P.globals.size rs H).get id = if H.next ≤ id ∧ id < H.next + rs.length then (rs[id - H.next]?).map (Row.blk P.globals.size δ) else H.get id := fun id => by
    unfold addR; rw [pushR_get, hδ]
  have hnext : (addR P.globals.size rs H).next = H.next + rs.length := by unfold addR; exact pushR_next rs H
  have hidx : ∀ id, H.next ≤ id → id - δ - P.globals.size = id - H.next := fun id h => by omega
  have hhigh : ∀ id i, ρ' id = some i → H.next ≤ id → ∃ r, rs[id - H.next]? = some r ∧ ρ1 r.src = some i := fun id i hi hid => by
    simp only [ρ'] at hi
    rw [if_neg (by omega)] at hi
    have := hcin (id - δ) i hi (by omega)
    rwa [hidx id hid] at this
  have hlow : ∀ id i, ρ' id = some i → id < H.next → ρ id = some i := fun id i hi hid => by
    simp only [ρ'] at hi
    rwa [if_pos hid] at hi
  have hgl : ∀ id, id < H.next → (addR P.globals.size rs H).get id = H.get id := fun id hid => by rw [hget, if_neg (by omega)]
  have hgh : ∀ id r, H.next ≤ id → rs[id - H.next]? = some r → (addR P.globals.size rs H).get id = some (r.blk P.globals.size δ) := fun id r hid hr => by
    have := (List.getElem?_eq_some_iff.1 hr).1
    rw [hget, if_pos ⟨hid, by omega⟩, hr]; rfl
  refine ⟨ρ', ?_, ⟨hsub, by rw [hnext]; omega, fun id i h h' => ?_, fun id i b b' h h1 h2 h3 => ?_, fun id i h h' => ?_, hst.os, hst.tape, hst.output, hst.size, fun b hb _ => hsame b hb⟩,
    ⟨fun id i h => ?_, fun id b i hb hi => ?_, fun id1 id2 b1 b2 i1 i2 h1 h2 h3 h4 h5 h6 => ?_, fun g hg => ?_⟩⟩
  · cases e with
    | returned v' => exact hval hv hu ho
    | _ => exact ho.elim
  · rw [hgl id (hs.dom id i h)]; exact h'
  · rw [hgl id (hs.dom id i h), h1] at h3; cases h3; exact h2
  · have hid : H.next ≤ id := by
      rcases Nat.lt_or_ge id H.next with hlt | hge
      · rw [hlow id i h hlt] at h'; cases h'
      · exact hge
    obtain ⟨r, hr, hr1⟩ := hhigh id i h hid
    exact ⟨hid, .inl (hnew r.src i hr1 (hrs.row _ r hr).1)⟩
  · rw [hnext]
    rcases Nat.lt_or_ge id H.next with hlt | hge
    · omega
    · obtain ⟨r, hr, _⟩ := hhigh id i h hge
      have := (List.getElem?_eq_some_iff.1 hr).1
      omega
  · rcases Nat.lt_or_ge id H.next with hlt | hge
    · rw [hgl id hlt] at hb
      have hr := hs.live id b i hb (hlow id i hi hlt)
      exact hr.mono hsub (hsame _ hr.lt)
    · obtain ⟨r, hr, hr1⟩ := hhigh id i hi hge
      rw [hgh id r hge hr] at hb
      cases hb
      obtain ⟨g1, g2, c1, g3, g4⟩ := hrs.row _ r hr
      obtain ⟨q1, q2⟩ := beqL_get g4
      refine (hs1.live r.src _ i g3 hr1).turn (by simp [q1]) fun j x y z hx hy hz => ?_
      simp only [List.getElem?_map, Option.map_eq_some_iff] at hy
      obtain ⟨y0, hy0, rfl⟩ := hy
      exact hval (q2 j x y0 hx hy0) (List.all_eq_true.1 g2 y0 (List.mem_of_getElem? hy0)) hz
  · have old : ∀ id b i, id < H.next → (addR P.globals.size rs H).get id = some b → ρ' id = some i → i.at_.block < w.heap.size := fun id b i hlt hb hi => by
      rw [hgl id hlt] at hb
      exact (hs.live id b i hb (hlow id i hi hlt)).lt
    have new : ∀ id i, H.next ≤ id → ρ' id = some i → w.heap.size ≤ i.at_.block := fun id i hge hi => by
      obtain ⟨r, hr, hr1⟩ := hhigh id i hi hge
      exact hnew r.src i hr1 (hrs.row _ r hr).1
    rcases Nat.lt_or_ge id1 H.next with l1 | l1 <;> rcases Nat.lt_or_ge id2 H.next with l2 | l2
    · rw [hgl id1 l1] at h1; rw [hgl id2 l2] at h2
      exact hs.sep id1 id2 b1 b2 i1 i2 h1 h2 (hlow id1 i1 h3 l1) (hlow id2 i2 h4 l2) h5 h6
    · have a1 := old id1 b1 i1 l1 h1 h3
      have a2 := new id2 i2 l2 h4
      omega
    · have a1 := new id1 i1 l1 h3
      have a2 := old id2 b2 i2 l2 h2 h4
      omega
    · obtain ⟨r, hr, hr1⟩ := hhigh id1 i1 h3 l1
      obtain ⟨r', hr', hr1'⟩ := hhigh id2 i2 h4 l2
      rw [hgh id1 r l1 hr] at h1
      rw [hgh id2 r' l2 hr'] at h2
      cases h1; cases h2
      obtain ⟨_, _, c1, g3, _⟩ := hrs.row _ r hr
      obtain ⟨_, _, c2, g4, _⟩ := hrs.row _ r' hr'
      exact hs1.sep r.src r'.src _ _ i1 i2 g3 g4 hr1 hr1' h5 (hrs.inj _ _ r r' hr hr' (by omega))
  · obtain ⟨j, hj, e⟩ := hs.glob g hg
    exact ⟨j, hsub _ _ hj, e⟩

/-! ### Tables, and calls that are known -/

structure Tab where
  id : Nat
  c : List Value
  e : TypeId

noncomputable def tabHeap (G : Nat) (tabs : List Tab) : Heap := ⟨G, tabs.foldr (fun t tr => tr.set t.id (some (.cells t.c t.e true))) .nil⟩

theorem tabHeap_get {G : Nat} : ∀ {tabs : List Tab} {id : Nat} {b : Blk}, (tabHeap G tabs).get id = some b → ∃ t ∈ tabs, id = t.id ∧ b = .cells t.c t.e true
  | [], id, b, h => by cases h
  | t :: ts, id, b, h => by
    have h : ((tabHeap G ts).tr.set t.id (some (.cells t.c t.e true))).get id = some b := h
    rw [Tr.get_set] at h
    by_cases e : id = t.id
    · rw [if_pos e] at h; cases h; exact ⟨t, List.mem_cons_self .., e, rfl⟩
    · rw [if_neg e] at h
      obtain ⟨t', h1, h2, h3⟩ := tabHeap_get (G := G) (tabs := ts) (id := id) (b := b) h
      exact ⟨t', List.mem_cons_of_mem _ h1, h2, h3⟩

noncomputable def tabsOk (tabs : List Tab) : Bool := tabs.all fun t => t.c.all plain
theorem tabOk_of {G : Nat} {tabs : List Tab} (h : tabsOk tabs = true) : TabOk G (tabHeap G tabs) :=
  ⟨rfl, fun id b hb => by
    obtain ⟨t, h1, _, h3⟩ := tabHeap_get hb
    exact ⟨t.c, t.e, h3, List.all_eq_true.1 h t h1⟩⟩

noncomputable def tabIs (t : Tab) (b : Option Blk) : Bool :=
  match b with
  | some (.cells c e true) => Nat.beq e t.e && beqL (beqV 8) c t.c
  | _ => false
noncomputable def tabsIn (tabs : List Tab) (H : Heap) : Bool := tabs.all fun t => tabIs t (H.get t.id)
theorem tabsIn_get {G : Nat} {tabs : List Tab} {H : Heap} (h : tabsIn tabs H = true) : ∀ id b, (tabHeap G tabs).get id = some b → H.get id = some b := fun id b hb => by
  obtain ⟨t, h1, h2, h3⟩ := tabHeap_get hb
  have := List.all_eq_true.1 h t h1
  subst h2; subst h3
  unfold tabIs at this
  split at this
  · rename_i c e hg
    simp only [Bool.and_eq_true, nbeq, decide_eq_true_eq] at this
    rw [hg, this.1, beqL_eq (beqV_eq 8) _ _ this.2]
  · cases this

def rising : List Row → Bool
  | r :: r' :: rs => Nat.blt r.src r'.src && rising (r' :: rs)
  | _ => true

theorem rising_lt : ∀ (rs : List Row), rising rs = true → ∀ (j k : Nat) (r r' : Row), rs[j]? = some r → rs[k]? = some r' → j < k → r.src < r'.src
  | [], _, j, k, r, r', h, _, _ => by simp at h
  | [x], _, j, k, r, r', h, h', hjk => by
    have := (List.getElem?_eq_some_iff.1 h').1
    simp at this; omega
  | x :: y :: rs, hr, j, k, r, r', h, h', hjk => by
    simp only [rising, Bool.and_eq_true, Nat.blt_eq] at hr
    cases k with
    | zero => omega
    | succ k =>
      have hk : (y :: rs)[k]? = some r' := by simpa using h'
      cases j with
      | zero =>
        simp at h; subst h
        cases k with
        | zero => simp at hk; subst hk; exact hr.1
        | succ k => exact Nat.lt_trans hr.1 (rising_lt (y :: rs) hr.2 0 (k + 1) y r' (by simp) hk (by omega))
      | succ j => exact rising_lt (y :: rs) hr.2 j k r r' (by simpa using h) hk (by omega)

noncomputable def rowChk (G : Nat) (σ : Nat → Option Nat) (H1 : Heap) (r : Row) : Bool :=
  Nat.ble G r.src && r.c.all (okD 6) && match H1.get r.src with
    | some (.cells c1 e ro) => Nat.beq e r.e && (ro == r.ro) && beqL (mtV σ 6) c1 r.c
    | _ => false

/-- A run's end is as it is told. -/
noncomputable def sumOk (G : Nat) (u : Value) (rs : List Row) (r : Option (Value × Heap)) : Bool :=
  match r with
  | some (v, H1) => mtV (sigma G rs) 6 v u && okD 6 u && rising rs && rs.all (rowChk G (sigma G rs) H1)
  | none => false

theorem sum_does {P : Program} {known : CallF} (hk : CallOk P known) {F G k : Nat} {f : FuncId} {args : List Value} {tabs : List Tab} {u : Value} {rs : List Row} (he : entered P f = true) (ha : args.all closedV = true) (ht : tabsOk tabs = true)
    (h : sumOk P.globals.size u rs ((run P known F G k).fn f args (tabHeap P.globals.size tabs)) = true) (H : Heap) (hH : tabsIn tabs H = true) :
    Does P f args H (.ret (shV P.globals.size (H.next - P.globals.size) 6 u)) (addR P.globals.size rs H) := by
  unfold sumOk at h
  split at h
  · rename_i v H1 hr
    simp only [Bool.and_eq_true] at h
    obtain ⟨⟨⟨h1, h2⟩, h3⟩, h4⟩ := h
    refine reloc (tabOk_of ht) (((run_sound hk k).fn f args _ v H1 hr).does he) ha h1 h2 ⟨fun j r hj => ?_, fun j m r r' hj hm hne => ?_⟩ H (tabsIn_get hH)
    · have := List.all_eq_true.1 h4 r (List.mem_of_getElem? hj)
      unfold rowChk at this
      simp only [Bool.and_eq_true, Nat.ble_eq] at this
      obtain ⟨⟨g1, g2⟩, g3⟩ := this
      refine ⟨g1, g2, ?_⟩
      split at g3
      · rename_i c1 e ro hg
        simp only [Bool.and_eq_true, nbeq, decide_eq_true_eq, beq_iff_eq] at g3
        exact ⟨c1, by rw [hg, g3.1.1, g3.1.2], g3.2⟩
      · cases g3
    · rcases Nat.lt_or_ge j m with hlt | hge
      · have := rising_lt rs h3 j m r r' hj hm hlt; omega
      · have := rising_lt rs h3 m j r' r hm hj (by omega); omega
  · cases h

/-- A call that is known: its values, what it gives, the rows that it leaves. -/
structure Sum_ where
  f : FuncId
  args : List Value
  u : Value
  rs : List Row

def SumOk (P : Program) (tabs : List Tab) (s : Sum_) : Prop :=
  entered P s.f = true ∧ ∀ H, tabsIn tabs H = true → Does P s.f s.args H (.ret (shV P.globals.size (H.next - P.globals.size) 6 s.u)) (addR P.globals.size s.rs H)

noncomputable def sknown (G : Nat) (tabs : List Tab) (f : FuncId) (args : List Value) (H : Heap) : List Sum_ → Option (Value × Heap)
  | [] => none
  | s :: ss => bif Nat.beq f s.f && beqL (beqV 8) args s.args && tabsIn tabs H then some (shV G (H.next - G) 6 s.u, addR G s.rs H) else sknown G tabs f args H ss

theorem sknown_ok {P : Program} {tabs : List Tab} : ∀ {ss : List Sum_}, (∀ s ∈ ss, SumOk P tabs s) → CallOk P (fun f args H => sknown P.globals.size tabs f args H ss)
  | [], _, f, args, H, v, H', h => by cases h
  | s :: ss, hs, f, args, H, v, H', h => by
    simp only [sknown] at h
    cases hc : (Nat.beq f s.f && beqL (beqV 8) args s.args && tabsIn tabs H) with
    | false =>
      rw [hc] at h
      exact sknown_ok (ss := ss) (fun s' h' => hs s' (List.mem_cons_of_mem _ h')) f args H v H' h
    | true =>
      rw [hc] at h
      simp only [cond_true, Option.some.injEq, Prod.mk.injEq] at h
      obtain ⟨rfl, rfl⟩ := h
      simp only [Bool.and_eq_true, nbeq, decide_eq_true_eq] at hc
      obtain ⟨⟨e1, e2⟩, e3⟩ := hc
      obtain ⟨g1, g2⟩ := hs s (List.mem_cons_self ..)
      subst e1
      rw [beqL_eq (beqV_eq 8) _ _ e2]
      exact .inl ⟨g1, g2 H e3⟩

/-- Known by the one or by the other. -/
noncomputable def orKnown (a b : CallF) : CallF := fun f args H => Option.rec (motive := fun _ => Option (Value × Heap)) (b f args H) some (a f args H)
theorem orKnown_ok {P : Program} {a b : CallF} (ha : CallOk P a) (hb : CallOk P b) : CallOk P (orKnown a b) := by
  intro f args H v H' h
  unfold orKnown at h
  cases he : a f args H with
  | some r => rw [he] at h; cases h; exact ha f args H v H' he
  | none => rw [he] at h; exact hb f args H v H' h
end Go.Ab
/- What a closed call does over the tables and some blocks that come in, it does over any heap that has them, wherever they lie there. -/
set_option linter.unusedVariables false
namespace Go.Ab

/-- The renaming of the small heap. -/
def back (ρ : Ren) (τ : Nat → Nat) (n : Nat) : Ren := fun id => if id < n then ρ (τ id) else none
theorem back_some {ρ : Ren} {τ : Nat → Nat} {n id : Nat} {i : Info} (h : back ρ τ n id = some i) : id < n ∧ ρ (τ id) = some i := by
  unfold back at h
  split at h
  · rename_i hl; exact ⟨hl, h⟩
  · cases h

/-- A value of the small heap, seen in the great one. -/
def Seen (τ : Nat → Nat) (n : Nat) (x y : Value) : Prop := ∀ ρ v, V ρ y v → V (back ρ τ n) x v
theorem Seen.plain {τ : Nat → Nat} {n : Nat} {x : Value} (h : plain x = true) : Seen τ n x x := fun ρ v hv => by
  rw [hv.plain_eq h]; exact .same x h
theorem Seen.slice {τ : Nat → Nat} {n id o l c : Nat} (h : id < n) : Seen τ n (.slice (some ⟨id, o, none⟩) l c) (.slice (some ⟨τ id, o, none⟩) l c) := fun ρ v hv => by
  cases hv with
  | same _ hp => simp [Ab.plain] at hp
  | slice _ _ _ _ cap' i a' h0 h1 h2 h3 h4 h5 => exact .slice id o l c cap' i a' (by unfold back; rw [if_pos h]; exact h0) h1 h2 h3 h4 h5
theorem Seen.ptr {τ : Nat → Nat} {n id o : Nat} (h : id < n) : Seen τ n (.pointer (some ⟨id, o, none⟩)) (.pointer (some ⟨τ id, o, none⟩)) := fun ρ v hv => by
  cases hv with
  | same _ hp => simp [Ab.plain] at hp
  | ptr _ _ i h0 => exact .ptr id o i (by unfold back; rw [if_pos h]; exact h0)
theorem Seen.agg {τ : Nat → Nat} {n : Nat} {xs ys : List Value} (hl : xs.length = ys.length) (h : ∀ (j : Nat) x y, xs[j]? = some x → ys[j]? = some y → Seen τ n x y) : Seen τ n (.agg xs.toArray) (.agg ys.toArray) := fun ρ v hv => by
  cases hv with
  | same _ hp => simp [Ab.plain] at hp
  | agg _ vs h1 h2 =>
    refine .agg _ vs (by simpa [hl] using h1) fun j x x' hx hx' => ?_
    have hj : j < ys.length := by
      have := (Array.getElem?_eq_some_iff.1 hx).1
      simp at this; omega
    exact h j x ys[j] (by simpa using hx) (List.getElem?_eq_getElem hj) ρ x' (h2 j _ x' (by simp [hj]) hx')


noncomputable def shW (sh : Nat → Nat) : Nat → Value → Value
  | 0, v => v
  | f + 1, v => match v with
    | .pointer (some a) => .pointer (some ⟨sh a.block, a.off, a.spot⟩)
    | .slice (some a) l c => .slice (some ⟨sh a.block, a.off, a.spot⟩) l c
    | .map (some r) => .map (some (sh r))
    | .iface t v => .iface t (shW sh f v)
    | .agg xs => .agg (xs.toList.map (shW sh f)).toArray
    | .tuple xs => .tuple (xs.toList.map (shW sh f)).toArray
    | .func fn xs ys => .func fn (xs.toList.map (shW sh f)).toArray (ys.toList.map (shW sh f)).toArray
    | v => v

theorem shW_plain (sh : Nat → Nat) : ∀ (f : Nat) (v : Value), plain v = true → shW sh f v = v
  | 0, v, _ => rfl
  | f + 1, v, h => by
    unfold shW
    split <;> first | (simp [plain] at h; done) | rfl

theorem shW_V {ρ ρ' : Ren} {sh : Nat → Nat} (hr : ∀ id i, ρ id = some i → ρ' (sh id) = some i) : ∀ (f : Nat) {v v' : Value}, V ρ v v' → okD f v = true → V ρ' (shW sh f v) v' := by
  intro f
  induction f with
  | zero =>
    intro v v' h hk
    rw [h.plain_eq hk]
    exact .same _ hk
  | succ f ih =>
    intro v v' h hk
    have arr : ∀ (xs xs' : Array Value), xs.size = xs'.size → (∀ (j : Nat) x x', xs[j]? = some x → xs'[j]? = some x' → V ρ x x') → xs.toList.all (okD f) = true →
        (xs.toList.map (shW sh f)).toArray.size = xs'.size ∧ ∀ (j : Nat) x x', (xs.toList.map (shW sh f)).toArray[j]? = some x → xs'[j]? = some x' → V ρ' x x' := by
      intro xs xs' h1 h2 h3
      refine ⟨by simp [h1], fun j x x' e e' => ?_⟩
      simp only [List.getElem?_toArray, List.getElem?_map, Array.getElem?_toList, Option.map_eq_some_iff] at e
      obtain ⟨y, hy, rfl⟩ := e
      exact ih (h2 j y x' hy e') (List.all_eq_true.1 h3 y (by simpa using Array.mem_of_getElem? hy))
    cases h with
    | same v hp => rw [shW_plain sh (f + 1) v hp]; exact .same v hp
    | ptr id off i h => exact .ptr _ off i (hr id i h)
    | slice id off len cap cap' i a' h h1 h2 h0 h3 h4 => exact .slice _ off len cap cap' i a' (hr id i h) h1 h2 h0 h3 h4
    | map id i h => exact .map _ i (hr id i h)
    | func fn xs ys xs' ys' hn h1 h2 h3 h4 =>
      simp only [okD, Bool.and_eq_true] at hk
      obtain ⟨p1, p2⟩ := arr xs xs' h1 h3 hk.1.2
      obtain ⟨q1, q2⟩ := arr ys ys' h2 h4 hk.2
      exact .func fn _ _ xs' ys' hn p1 q1 p2 q2
    | yield l i h => simp [okD, noYield] at hk
    | iface t v v' h => exact .iface t _ v' (ih h hk)
    | agg xs xs' h1 h2 =>
      obtain ⟨p1, p2⟩ := arr xs xs' h1 h2 hk
      exact .agg _ xs' p1 p2
    | tuple xs xs' h1 h2 =>
      obtain ⟨p1, p2⟩ := arr xs xs' h1 h2 hk
      exact .tuple _ xs' p1 p2

noncomputable def Row.blkW (sh : Nat → Nat) (r : Row) : Blk := .cells (r.c.map (shW sh 6)) r.e r.ro
noncomputable def pushW (sh : Nat → Nat) : List Row → Heap → Heap
  | [], H => H
  | r :: rs, H => pushW sh rs (H.push (r.blkW sh))
theorem pushW_next {sh : Nat → Nat} : ∀ (rs : List Row) (H : Heap), (pushW sh rs H).next = H.next + rs.length
  | [], H => rfl
  | r :: rs, H => by simp only [pushW, pushW_next rs, Heap.next_push, List.length_cons]; omega
theorem pushW_get {sh : Nat → Nat} : ∀ (rs : List Row) (H : Heap) (id : Nat), (pushW sh rs H).get id = if H.next ≤ id ∧ id < H.next + rs.length then (rs[id - H.next]?).map (Row.blkW sh) else H.get id
  | [], H, id => by simp only [pushW, List.length_nil]; rw [if_neg (by omega)]
  | r :: rs, H, id => by
    simp only [pushW, pushW_get rs, Heap.next_push, List.length_cons, Heap.get_push]
    by_cases h1 : id = H.next
    · subst h1; rw [if_neg (by omega), if_pos rfl, if_pos ⟨by omega, by omega⟩]; simp
    · by_cases h2 : H.next + 1 ≤ id ∧ id < H.next + 1 + rs.length
      · rw [if_pos h2, if_pos ⟨by omega, by omega⟩, show id - H.next = (id - (H.next + 1)) + 1 by omega]; simp
      · rw [if_neg h2, if_neg h1, if_neg (by omega)]

/-- Where a block of the small heap lies in the great one: as it was found, or new. -/
def shM (τ : Nat → Nat) (M n id : Nat) : Nat := bif Nat.blt id M then τ id else n + (id - M)
def sigmaT (τ : Nat → Nat) (M b : Nat) : Option Nat := bif Nat.blt b M then some (τ b) else none

theorem blt_dec (a b : Nat) : Nat.blt a b = decide (a < b) := by
  cases hb : Nat.blt a b with
  | false =>
    by_cases h : a < b
    · have : Nat.blt a b = true := by simpa using h
      rw [hb] at this; cases this
    · simp [h]
  | true => simp only [Nat.blt_eq] at hb; simp [hb]

theorem back_sig {ρ : Ren} {τ : Nat → Nat} {n a b : Nat} {i : Info} (h : sigmaT τ n b = some a) (h' : ρ a = some i) : back ρ τ n b = some i := by
  unfold sigmaT at h
  rw [blt_dec] at h
  unfold back
  by_cases hb : b < n
  · simp only [hb, decide_true, cond_true, Option.some.injEq] at h
    rw [if_pos hb, h]; exact h'
  · simp only [hb, decide_false, cond_false] at h; cases h
theorem seen_mt {τ : Nat → Nat} {n f : Nat} {x y : Value} (h : mtV (sigmaT τ n) f y x = true) : Seen τ n x y := fun ρ v hv => mtV_V (fun a b i => back_sig) f h hv

theorem reloc2 {P : Program} {f : FuncId} {args args2 : List Value} {v u : Value} {B H1 : Heap} {τ : Nat → Nat} (hd : Does P f args B (.ret v) H1) (hg : P.globals.size ≤ B.next) (hτ : ∀ g, g < P.globals.size → τ g = g)
    {rs : List Row} (hv : mtV (sigma B.next rs) 6 v u = true) (hu : okD 6 u = true) (hrs : RowsOk B.next H1 rs) (H : Heap)
    (hB : ∀ id b, B.get id = some b → ∃ c e c2 e2 ro, b = .cells c e true ∧ H.get (τ id) = some (.cells c2 e2 ro) ∧ c.length = c2.length ∧ ∀ (j : Nat) x y, c[j]? = some x → c2[j]? = some y → Seen τ B.next x y)
    (ha : beqL (mtV (sigmaT τ B.next) 6) args2 args = true) :
    Does P f args2 H (.ret (shW (shM τ B.next H.next) 6 u)) (pushW (shM τ B.next H.next) rs H) := by
  intro ρ w args' hs hargs
  have hbk := fun a b i => back_sig (ρ := ρ) (τ := τ) (n := B.next) (a := a) (b := b) (i := i)
  obtain ⟨hal, hav⟩ := beqL_get ha
  have hargs' : VL (back ρ τ B.next) args args' := ⟨by rw [← hal]; exact hargs.1, fun j x x' e e' => by
    have hj : j < args2.length := by have := (List.getElem?_eq_some_iff.1 e).1; omega
    exact mtV_V hbk 6 (hav j args2[j] x (List.getElem?_eq_getElem hj) e) (hargs.2 j _ x' (List.getElem?_eq_getElem hj) e')⟩
  have hnro : ∀ id b, B.get id = some b → b.ro = true := fun id b h => by obtain ⟨c, e, c2, e2, ro, rfl, _⟩ := hB id b h; rfl
  have hsim : Sim P (back ρ τ B.next) B w := by
    refine ⟨fun id j h => (back_some h).1, fun id b i hb hi => ?_, fun id1 id2 b1 b2 i1 i2 h1 h2 h3 h4 h5 => ?_, fun g hgl => ?_⟩
    · obtain ⟨c, e, c2, e2, ro, rfl, hh, hc, hx⟩ := hB id b hb
      have hr := hs.live _ _ i hh (back_some hi).2
      refine ⟨hr.lt, fun j u hj => ?_⟩
      have hj2 : j < c2.length := by have := (List.getElem?_eq_some_iff.1 hj).1; omega
      obtain ⟨u', h1, h2⟩ := hr.cellAt (List.getElem?_eq_getElem hj2)
      exact ⟨u', h1, hx j u c2[j] hj (List.getElem?_eq_getElem hj2) ρ u' h2⟩
    · rw [hnro id1 b1 h1] at h5; cases h5
    · obtain ⟨j, hj, e⟩ := hs.glob g hgl
      refine ⟨j, ?_, e⟩
      unfold back
      rw [if_pos (by omega), hτ g hgl]; exact hj
  refine (hd _ w args' hsim hargs').mono ?_
  rintro e w' ⟨ρ1, ho, hst, hs1⟩
  have hsame : ∀ b, b < w.heap.size → w'.heap[b]? = w.heap[b]? := fun b hb => hst.frame b hb (fun id i bl _ h2 h3 => by rw [hnro id bl h2] at h3; cases h3)
  have hnew : ∀ id i, ρ1 id = some i → B.next ≤ id → w.heap.size ≤ i.at_.block := fun id i h hid => by
    have hn : back ρ τ B.next id = none := by unfold back; rw [if_neg (by omega)]
    rcases (hst.fresh id i h hn).2 with h | ⟨id0, i0, b0, _, _, h3, h4⟩
    · exact h
    · rw [hnro id0 b0 h3] at h4; cases h4
  generalize hM : B.next = M at *
  have hsh : ∀ id, shM τ M H.next id = if id < M then τ id else H.next + (id - M) := fun id => by
    unfold shM; rw [blt_dec]; by_cases h : id < M <;> simp [h]
  let ρc : Ren := fun b => (sigma M rs b).bind ρ1
  let ρ' : Ren := fun id => if id < H.next then ρ id else ρc (M + (id - H.next))
  have hc1 : ∀ a b i, sigma M rs b = some a → ρ1 a = some i → ρc b = some i := fun a b i h h' => by simp only [ρc, h, Option.bind_some, h']
  have hcin : ∀ b i, ρc b = some i → M ≤ b → ∃ r, rs[b - M]? = some r ∧ ρ1 r.src = some i := fun b i h hb => by
    simp only [ρc, sigma, blt_dec, show ¬ b < M by omega, decide_false, cond_false] at h
    cases hr : rs[b - M]? with
    | none => rw [hr] at h; cases h
    | some r => rw [hr] at h; exact ⟨r, rfl, h⟩
  have hmap : ∀ b i, ρc b = some i → ρ' (shM τ M H.next b) = some i := fun b i h => by
    rw [hsh]
    by_cases hb : b < M
    · simp only [hb, if_true, ρ']
      simp only [ρc, sigma, blt_dec, hb, decide_true, cond_true, Option.bind_some] at h
      cases hk : back ρ τ M b with
      | none =>
        have := (hst.fresh b i h hk).1
        omega
      | some i0 =>
        have := hst.mono b i0 hk
        rw [h] at this
        cases this
        have h2 := (back_some hk).2
        rw [if_pos (hs.dom _ _ h2)]
        exact h2
    · simp only [hb, if_false, ρ']
      rw [if_neg (by omega), show M + (H.next + (b - M) - H.next) = b by omega]
      exact h
  have hval : ∀ {x y z : Value}, mtV (sigma M rs) 6 x y = true → okD 6 y = true → V ρ1 x z → V ρ' (shW (shM τ M H.next) 6 y) z := fun h1 h2 h3 => shW_V hmap 6 (mtV_V hc1 6 h1 h3) h2
  have hsub : Sub ρ ρ' := fun id i h => by
    simp only [ρ']
    rw [if_pos (hs.dom id i h)]
    exact h
  have hget : ∀ id, (pushW (shM τ M H.next) rs H).get id = if H.next ≤ id ∧ id < H.next + rs.length then (rs[id - H.next]?).map (Row.blkW (shM τ M H.next)) else H.get id := fun id => pushW_get rs H id
  have hnext : (pushW (shM τ M H.next) rs H).next = H.next + rs.length := pushW_next rs H
  have hhigh : ∀ id i, ρ' id = some i → H.next ≤ id → ∃ r, rs[id - H.next]? = some r ∧ ρ1 r.src = some i := fun id i hi hid => by
    simp only [ρ'] at hi
    rw [if_neg (by omega)] at hi
    have := hcin _ i hi (by omega)
    rwa [show M + (id - H.next) - M = id - H.next by omega] at this
  have hlow : ∀ id i, ρ' id = some i → id < H.next → ρ id = some i := fun id i hi hid => by
    simp only [ρ'] at hi
    rwa [if_pos hid] at hi
  have hgl : ∀ id, id < H.next → (pushW (shM τ M H.next) rs H).get id = H.get id := fun id hid => by rw [hget, if_neg (by omega)]
  have hgh : ∀ id r, H.next ≤ id → rs[id - H.next]? = some r → (pushW (shM τ M H.next) rs H).get id = some (r.blkW (shM τ M H.next)) := fun id r hid hr => by
    have := (List.getElem?_eq_some_iff.1 hr).1
    rw [hget, if_pos ⟨hid, by omega⟩, hr]; rfl
  refine ⟨ρ', ?_, ⟨hsub, by rw [hnext]; omega, fun id i h h' => ?_, fun id i b b' h h1 h2 h3 => ?_, fun id i h h' => ?_, hst.os, hst.tape, hst.output, hst.size, fun b hb _ => hsame b hb⟩,
    ⟨fun id i h => ?_, fun id b i hb hi => ?_, fun id1 id2 b1 b2 i1 i2 h1 h2 h3 h4 h5 h6 => ?_, fun g hg => ?_⟩⟩
  · cases e with
    | returned v' => exact hval hv hu ho
    | _ => exact ho.elim
  · rw [hgl id (hs.dom id i h)]; exact h'
  · rw [hgl id (hs.dom id i h), h1] at h3; cases h3; exact h2
  · have hid : H.next ≤ id := by
      rcases Nat.lt_or_ge id H.next with hlt | hge
      · rw [hlow id i h hlt] at h'; cases h'
      · exact hge
    obtain ⟨r, hr, hr1⟩ := hhigh id i h hid
    exact ⟨hid, .inl (hnew r.src i hr1 (hrs.row _ r hr).1)⟩
  · rw [hnext]
    rcases Nat.lt_or_ge id H.next with hlt | hge
    · omega
    · obtain ⟨r, hr, _⟩ := hhigh id i h hge
      have := (List.getElem?_eq_some_iff.1 hr).1
      omega
  · rcases Nat.lt_or_ge id H.next with hlt | hge
    · rw [hgl id hlt] at hb
      have hr := hs.live id b i hb (hlow id i hi hlt)
      exact hr.mono hsub (hsame _ hr.lt)
    · obtain ⟨r, hr, hr1⟩ := hhigh id i hi hge
      rw [hgh id r hge hr] at hb
      cases hb
      obtain ⟨g1, g2, c1, g3, g4⟩ := hrs.row _ r hr
      obtain ⟨q1, q2⟩ := beqL_get g4
      refine (hs1.live r.src _ i g3 hr1).turn (by simp [q1]) fun j x y z hx hy hz => ?_
      simp only [List.getElem?_map, Option.map_eq_some_iff] at hy
      obtain ⟨y0, hy0, rfl⟩ := hy
      exact hval (q2 j x y0 hx hy0) (List.all_eq_true.1 g2 y0 (List.mem_of_getElem? hy0)) hz
  · have old : ∀ id b i, id < H.next → (pushW (shM τ M H.next) rs H).get id = some b → ρ' id = some i → i.at_.block < w.heap.size := fun id b i hlt hb hi => by
      rw [hgl id hlt] at hb
      exact (hs.live id b i hb (hlow id i hi hlt)).lt
    have new : ∀ id i, H.next ≤ id → ρ' id = some i → w.heap.size ≤ i.at_.block := fun id i hge hi => by
      obtain ⟨r, hr, hr1⟩ := hhigh id i hi hge
      exact hnew r.src i hr1 (hrs.row _ r hr).1
    rcases Nat.lt_or_ge id1 H.next with l1 | l1 <;> rcases Nat.lt_or_ge id2 H.next with l2 | l2
    · rw [hgl id1 l1] at h1; rw [hgl id2 l2] at h2
      exact hs.sep id1 id2 b1 b2 i1 i2 h1 h2 (hlow id1 i1 h3 l1) (hlow id2 i2 h4 l2) h5 h6
    · have a1 := old id1 b1 i1 l1 h1 h3
      have a2 := new id2 i2 l2 h4
      omega
    · have a1 := new id1 i1 l1 h3
      have a2 := old id2 b2 i2 l2 h2 h4
      omega
    · obtain ⟨r, hr, hr1⟩ := hhigh id1 i1 h3 l1
      obtain ⟨r', hr', hr1'⟩ := hhigh id2 i2 h4 l2
      rw [hgh id1 r l1 hr] at h1
      rw [hgh id2 r' l2 hr'] at h2
      cases h1; cases h2
      obtain ⟨_, _, c1, g3, _⟩ := hrs.row _ r hr
      obtain ⟨_, _, c2, g4, _⟩ := hrs.row _ r' hr'
      exact hs1.sep r.src r'.src _ _ i1 i2 g3 g4 hr1 hr1' h5 (hrs.inj _ _ r r' hr hr' (by omega))
  · obtain ⟨j, hj, e⟩ := hs.glob g hg
    exact ⟨j, hsub _ _ hj, e⟩

/-! ### Known calls -/

/-- A call that is known: its values, the blocks that come in (numbered from the globals on), what it gives, the rows that it leaves (numbered behind them). -/
structure SumI where
  f : FuncId
  args : List Value
  ins : List (List Value × TypeId)
  u : Value
  rs : List Row

noncomputable def insHeap (H : Heap) : List (List Value × TypeId) → Heap
  | [] => H
  | c :: cs => insHeap (H.push (.cells c.1 c.2 true)) cs
theorem insHeap_next : ∀ (l : List (List Value × TypeId)) (H : Heap), (insHeap H l).next = H.next + l.length
  | [], H => rfl
  | c :: cs, H => by simp only [insHeap, insHeap_next cs, Heap.next_push, List.length_cons]; omega
theorem insHeap_get : ∀ (l : List (List Value × TypeId)) (H : Heap) (id : Nat) (b : Blk), (insHeap H l).get id = some b → H.get id = some b ∨ ∃ k c, l[k]? = some c ∧ id = H.next + k ∧ b = .cells c.1 c.2 true
  | [], H, id, b, h => .inl h
  | c :: cs, H, id, b, h => by
    rcases insHeap_get cs _ id b h with h | ⟨k, c', h1, h2, h3⟩
    · rw [Heap.get_push] at h
      by_cases hid : id = H.next
      · rw [if_pos hid] at h; cases h; exact .inr ⟨0, c, rfl, hid, rfl⟩
      · rw [if_neg hid] at h; exact .inl h
    · exact .inr ⟨k + 1, c', by simpa using h1, by rw [h2, Heap.next_push]; omega, h3⟩

noncomputable def fndL (g : Value → Value → List (Nat × Nat) → List (Nat × Nat)) : List Value → List Value → List (Nat × Nat) → List (Nat × Nat)
  | x :: xs, y :: ys, l => fndL g xs ys (g x y l)
  | _, _, l => l
/-- Which blocks are meant. -/
noncomputable def fnd : Nat → Value → Value → List (Nat × Nat) → List (Nat × Nat)
  | 0, _, _, l => l
  | f + 1, x, y, l => match x, y with
    | .pointer (some a), .pointer (some b) => (a.block, b.block) :: l
    | .slice (some a) _ _, .slice (some b) _ _ => (a.block, b.block) :: l
    | .iface _ x, .iface _ y => fnd f x y l
    | .agg xs, .agg ys => fndL (fnd f) xs.toList ys.toList l
    | .tuple xs, .tuple ys => fndL (fnd f) xs.toList ys.toList l
    | _, _ => l
noncomputable def asc : List (Nat × Nat) → Nat → Nat
  | [], _ => 0
  | p :: l, n => bif Nat.beq p.1 n then p.2 else asc l n
noncomputable def fndIns (H : Heap) : List (List Value × TypeId) → Nat → List (Nat × Nat) → List (Nat × Nat)
  | [], _, l => l
  | c :: cs, n, l => fndIns H cs (n + 1) (match H.get (asc l n) with | some (.cells c' _ _) => fndL (fnd 6) c.1 c' l | _ => l)
noncomputable def tauOf (G : Nat) (s : SumI) (args : List Value) (H : Heap) (id : Nat) : Nat := bif Nat.blt id G then id else asc (fndIns H s.ins G (fndL (fnd 6) s.args args [])) id
noncomputable def insIn (τ : Nat → Nat) (M : Nat) (H : Heap) : List (List Value × TypeId) → Nat → Bool
  | [], _ => true
  | c :: cs, n => (match H.get (τ n) with | some (.cells c' _ _) => beqL (mtV (sigmaT τ M) 6) c' c.1 | _ => false) && insIn τ M H cs (n + 1)
theorem insIn_get {τ : Nat → Nat} {M : Nat} {H : Heap} : ∀ (l : List (List Value × TypeId)) (n : Nat), insIn τ M H l n = true → ∀ (k : Nat) c, l[k]? = some c → ∃ c' e' ro, H.get (τ (n + k)) = some (.cells c' e' ro) ∧ beqL (mtV (sigmaT τ M) 6) c' c.1 = true
  | [], n, _, k, c, hk => by simp at hk
  | c0 :: cs, n, h, k, c, hk => by
    simp only [insIn, Bool.and_eq_true] at h
    cases k with
    | zero =>
      simp at hk; subst hk
      obtain ⟨h, _⟩ := h
      split at h
      · rename_i c' e' ro hg
        exact ⟨c', e', ro, hg, h⟩
      · cases h
    | succ k =>
      obtain ⟨c', e', ro, h1, h2⟩ := insIn_get cs (n + 1) h.2 k c (by simpa using hk)
      exact ⟨c', e', ro, by rw [show n + (k + 1) = n + 1 + k by omega]; exact h1, h2⟩

def SumIOk (P : Program) (tabs : List Tab) (s : SumI) : Prop :=
  entered P s.f = true ∧ ∃ v H1, Does P s.f s.args (insHeap (tabHeap P.globals.size tabs) s.ins) (.ret v) H1 ∧ mtV (sigma (P.globals.size + s.ins.length) s.rs) 6 v s.u = true ∧ okD 6 s.u = true ∧ RowsOk (P.globals.size + s.ins.length) H1 s.rs

theorem sumI_ok {P : Program} {known : CallF} (hk : CallOk P known) {F G k : Nat} {tabs : List Tab} {s : SumI} (he : entered P s.f = true)
    (h : sumOk (P.globals.size + s.ins.length) s.u s.rs ((run P known F G k).fn s.f s.args (insHeap (tabHeap P.globals.size tabs) s.ins)) = true) : SumIOk P tabs s := by
  unfold sumOk at h
  split at h
  · rename_i v H1 hr
    simp only [Bool.and_eq_true] at h
    obtain ⟨⟨⟨h1, h2⟩, h3⟩, h4⟩ := h
    refine ⟨he, v, H1, ((run_sound hk k).fn s.f s.args _ v H1 hr).does he, h1, h2, ⟨fun j r hj => ?_, fun j m r r' hj hm hne => ?_⟩⟩
    · have := List.all_eq_true.1 h4 r (List.mem_of_getElem? hj)
      unfold rowChk at this
      simp only [Bool.and_eq_true, Nat.ble_eq] at this
      obtain ⟨⟨g1, g2⟩, g3⟩ := this
      refine ⟨g1, g2, ?_⟩
      split at g3
      · rename_i c1 e ro hg
        simp only [Bool.and_eq_true, nbeq, decide_eq_true_eq, beq_iff_eq] at g3
        exact ⟨c1, by rw [hg, g3.1.1, g3.1.2], g3.2⟩
      · cases g3
    · rcases Nat.lt_or_ge j m with hlt | hge
      · have := rising_lt _ h3 j m r r' hj hm hlt; omega
      · have := rising_lt _ h3 m j r' r hm hj (by omega); omega
  · cases h

theorem SumIOk.does {P : Program} {tabs : List Tab} {s : SumI} (hs : SumIOk P tabs s) (ht : tabsOk tabs = true) {args : List Value} {H : Heap} {τ : Nat → Nat} (hτ : ∀ g, g < P.globals.size → τ g = g) (htab : ∀ t ∈ tabs, t.id < P.globals.size)
    (hH : tabsIn tabs H = true) (hi : insIn τ (P.globals.size + s.ins.length) H s.ins P.globals.size = true) (ha : beqL (mtV (sigmaT τ (P.globals.size + s.ins.length)) 6) args s.args = true) :
    Does P s.f args H (.ret (shW (shM τ (P.globals.size + s.ins.length) H.next) 6 s.u)) (pushW (shM τ (P.globals.size + s.ins.length) H.next) s.rs H) := by
  obtain ⟨he, v, H1, hd, h1, h2, h3⟩ := hs
  have hM : (insHeap (tabHeap P.globals.size tabs) s.ins).next = P.globals.size + s.ins.length := insHeap_next _ _
  rw [← hM] at h1 h3 hi ha ⊢
  refine reloc2 hd (by rw [hM]; omega) hτ h1 h2 h3 H (fun id b hb => ?_) ha
  rcases insHeap_get _ _ _ _ hb with hb | ⟨k, c, hk, hid, rfl⟩
  · have hg := tabsIn_get hH id b hb
    obtain ⟨t, ht1, rfl, rfl⟩ := tabHeap_get hb
    refine ⟨t.c, t.e, t.c, t.e, true, rfl, by rw [hτ _ (htab t ht1)]; exact hg, rfl, fun j x y hx hy => ?_⟩
    rw [hx] at hy
    cases hy
    exact Seen.plain (List.all_eq_true.1 (List.all_eq_true.1 ht t ht1) x (List.mem_of_getElem? hx))
  · obtain ⟨c', e', ro, g1, g2⟩ := insIn_get _ _ hi k c hk
    obtain ⟨q1, q2⟩ := beqL_get g2
    exact ⟨c.1, c.2, c', e', ro, rfl, by rw [hid]; exact g1, q1.symm, fun j x y hx hy => seen_mt (q2 j y x hy hx)⟩

noncomputable def sknownI (G : Nat) (tabs : List Tab) (f : FuncId) (args : List Value) (H : Heap) : List SumI → Option (Value × Heap)
  | [] => none
  | s :: ss => bif Nat.beq f s.f && (beqL (mtV (sigmaT (tauOf G s args H) (G + s.ins.length)) 6) args s.args && (tabsIn tabs H && insIn (tauOf G s args H) (G + s.ins.length) H s.ins G)) then
      some (shW (shM (tauOf G s args H) (G + s.ins.length) H.next) 6 s.u, pushW (shM (tauOf G s args H) (G + s.ins.length) H.next) s.rs H) else sknownI G tabs f args H ss

theorem sknownI_ok {P : Program} {tabs : List Tab} (ht : tabsOk tabs = true) (htab : ∀ t ∈ tabs, t.id < P.globals.size) {f : FuncId} {args : List Value} {H : Heap} {v : Value} {H' : Heap} : ∀ {ss : List SumI}, (∀ s ∈ ss, SumIOk P tabs s) → sknownI P.globals.size tabs f args H ss = some (v, H') →
    entered P f = true ∧ Does P f args H (.ret v) H'
  | [], _, h => by cases h
  | s :: ss, hs, h => by
    simp only [sknownI] at h
    cases hc : (Nat.beq f s.f && (beqL (mtV (sigmaT (tauOf P.globals.size s args H) (P.globals.size + s.ins.length)) 6) args s.args && (tabsIn tabs H && insIn (tauOf P.globals.size s args H) (P.globals.size + s.ins.length) H s.ins P.globals.size))) with
    | false =>
      rw [hc] at h
      exact sknownI_ok ht htab (ss := ss) (fun s' h' => hs s' (List.mem_cons_of_mem _ h')) h
    | true =>
      rw [hc] at h
      simp only [cond_true, Option.some.injEq, Prod.mk.injEq] at h
      obtain ⟨rfl, rfl⟩ := h
      simp only [Bool.and_eq_true, nbeq, decide_eq_true_eq] at hc
      obtain ⟨e1, e2, e3, e4⟩ := hc
      have hs0 := hs s (List.mem_cons_self ..)
      subst e1
      exact ⟨hs0.1, hs0.does ht (fun g hg => by unfold tauOf; rw [blt_dec]; simp [hg]) htab e3 e4 e2⟩

/-- Known calls, looked up by the function. -/
noncomputable def byFn (G : Nat) (tabs : List Tab) (sel : FuncId → List SumI) : CallF := fun f args H => sknownI G tabs f args H (sel f)
theorem byFn_ok {P : Program} {tabs : List Tab} (ht : tabsOk tabs = true) (htab : ∀ t ∈ tabs, t.id < P.globals.size) {sel : FuncId → List SumI} (h : ∀ f, ∀ s ∈ sel f, SumIOk P tabs s) : CallOk P (byFn P.globals.size tabs sel) := fun f args H v H' e => by
  obtain ⟨h1, h2⟩ := sknownI_ok ht htab (h f) e
  exact .inl ⟨h1, h2⟩
end Go.Ab
/- From a run over no memory to what holds over any. -/
set_option linter.unusedVariables false
namespace Go.Ab
open Go.RowKit
section
variable {P : Program}

noncomputable def globR (P : Program) : Ren := fun g => if g < P.globals.size then some ⟨⟨g, 0, none⟩, 0, 0⟩ else none

/-- The heap of which nothing is known. -/
noncomputable def H0 (P : Program) : Heap := ⟨P.globals.size, .nil⟩
theorem H0_get (P : Program) (id : Nat) : (H0 P).get id = none := rfl

theorem sim_H0 (w : World) : Sim P (globR P) (H0 P) w :=
  Sim.empty (fun id j h => by unfold globR at h; split at h; (assumption); cases h) (fun g hg => ⟨_, by unfold globR; rw [if_pos hg], rfl⟩)

theorem St.below {ρ ρ' : Ren} {H H' : Heap} {w w' : World} (h : St ρ H w ρ' H' w') (hro : ∀ id b, H.get id = some b → b.ro = true) : Below w.heap.size w w' :=
  ⟨h.os, h.tape, h.output, h.size, fun b hb => h.frame b hb (fun id i bl _ h2 h3 => by rw [hro id bl h2] at h3; cases h3)⟩

/-- What a function does over no memory, with closed values, it does over any. -/
theorem does_any {f : FuncId} {args : List Value} {v : Value} {H1 : Heap} (hd : Does P f args (H0 P) (.ret v) H1) (ha : args.all plain = true) (hv : plain v = true) (H : Heap) : Does P f args H (.ret v) H := by
  intro ρ w args' hs hargs
  have hargs' : VL (restr ρ P.globals.size) args args' := ⟨hargs.1, fun j x x' e e' => by
    have hp : plain x = true := List.all_eq_true.1 ha x (List.mem_of_getElem? e)
    rw [(hargs.2 j x x' e e').plain_eq hp]
    exact .same x hp⟩
  have hsim : Sim P (restr ρ P.globals.size) (H0 P) w := Sim.empty (fun id j h => (restr_some h).1) (fun g hg => by
    obtain ⟨j, hj, e⟩ := hs.glob g hg
    exact ⟨j, restr_mk hg hj, e⟩)
  refine (hd _ w args' hsim hargs').mono ?_
  rintro e w' ⟨ρ', ho, hst, hs'⟩
  have hbel := hst.below (fun id b h => by rw [H0_get] at h; cases h)
  refine ⟨ρ, ?_, ⟨.refl ρ, Nat.le_refl _, fun _ _ _ h => h, fun _ _ b b' _ h hr h' => (by rw [h] at h'; cases h'; exact hr), fun id i h h' => (by rw [h'] at h; cases h), hbel.os, hbel.tape, hbel.output, hbel.size, fun b hb _ => hbel.block b hb⟩,
    ⟨hs.dom, fun id b i h h' => (hs.live id b i h h').mono (.refl ρ) (hbel.block _ (hs.live id b i h h').lt), hs.sep, hs.glob⟩⟩
  cases e with
  | returned v' =>
    have : v' = v := V.plain_eq ho hv
    subst this
    exact .same _ hv
  | _ => exact ho.elim

noncomputable def isTrue : Option (Value × Heap) → Bool
  | some (.bool b, _) => b
  | _ => false

theorem isTrue_some {r : Option (Value × Heap)} (h : isTrue r = true) : ∃ H, r = some (.bool true, H) := by
  unfold isTrue at h
  split at h
  · subst h; exact ⟨_, rfl⟩
  · cases h

theorem does_true {known : CallF} (hk : CallOk P known) {F G k : Nat} {f : FuncId} {args : List Value} (he : entered P f = true) (ha : args.all plain = true) (h : isTrue ((run P known F G k).fn f args (H0 P)) = true) (H : Heap) : Does P f args H (.ret (.bool true)) H := by
  obtain ⟨H1, hr⟩ := isTrue_some h
  exact does_any (((run_sound hk k).fn f args (H0 P) _ H1 hr).does he) ha rfl H

/-- A contract over blocks that may not be written, as the kit's calls say it. -/
theorem calls_of_does {f : FuncId} {args args' : List Value} {v : Value} {H H' : Heap} (hd : Does P f args H (.ret v) H') {ρ : Ren} {w : World} (hs : Sim P ρ H w) (ha : VL ρ args args') (hv : plain v = true) (hro : ∀ id b, H.get id = some b → b.ro = true) :
    Calls P f args'.toArray w fun e w' => e = .returned v ∧ Below w.heap.size w w' := by
  refine (hd ρ w args' hs ha).mono ?_
  rintro e w' ⟨ρ', ho, hst, hs'⟩
  refine ⟨?_, hst.below hro⟩
  cases e with
  | returned v' => rw [V.plain_eq ho hv]
  | _ => exact ho.elim

/-- The tables alone, in a world that holds them. -/
theorem sim_tabs {tabs : List Tab} {w : World} (hb : ∀ t ∈ tabs, t.id < w.heap.size) (hc : ∀ t ∈ tabs, ∀ (j : Nat) v, t.c[j]? = some v → w.cell? ⟨t.id, j, none⟩ = some v) (hp : tabsOk tabs = true) :
    Sim P (globR P) (tabHeap P.globals.size tabs) w := by
  refine ⟨fun id j h => (by unfold globR at h; split at h; (assumption); cases h), fun id b i hg hi => ?_, fun id1 id2 b1 b2 i1 i2 h1 h2 h3 h4 h5 => ?_, fun g hg => ⟨_, (by unfold globR; rw [if_pos hg]), rfl⟩⟩
  · obtain ⟨t, h1, rfl, rfl⟩ := tabHeap_get hg
    unfold globR at hi
    split at hi
    · cases hi
      refine ⟨hb t h1, fun j v hj => ⟨v, ?_, .same v (List.all_eq_true.1 (List.all_eq_true.1 hp t h1) v (List.mem_of_getElem? hj))⟩⟩
      rw [add_lit, Nat.zero_add]
      exact hc t h1 j v hj
    · cases hi
  · obtain ⟨t, _, _, rfl⟩ := tabHeap_get h1
    cases h5

/-- A closed run over the tables, as the kit's calls say it. -/
theorem calls_tabs {known : CallF} (hk : CallOk P known) {F G k : Nat} {f : FuncId} {args : List Value} {tabs : List Tab} (he : entered P f = true) (ha : args.all plain = true) (hp : tabsOk tabs = true)
    (h : isTrue ((run P known F G k).fn f args (tabHeap P.globals.size tabs)) = true) {w : World} (hb : ∀ t ∈ tabs, t.id < w.heap.size) (hc : ∀ t ∈ tabs, ∀ (j : Nat) v, t.c[j]? = some v → w.cell? ⟨t.id, j, none⟩ = some v) :
    Calls P f args.toArray w fun e w' => e = .returned (.bool true) ∧ Below w.heap.size w w' := by
  obtain ⟨H1, hr⟩ := isTrue_some h
  exact calls_of_does (((run_sound hk k).fn f args _ _ H1 hr).does he) (sim_tabs hb hc hp) (.closed ha) rfl (fun id b hg => by obtain ⟨t, _, _, rfl⟩ := tabHeap_get hg; rfl)

/-- What a law's row asks behind the call, where nothing that was there has turned. -/
theorem post_below {H : Type} {enc : TypeId × Value → H} {f : Func} {s : ChangeSpec} {fresh handsOn : Bool} {W W' : World} {args : Array Value} {v : Value} {ds gs : List (DataW H)} {before pa pv : List MemPlace}
    (hW : DataW.Whole enc P f.params.toList s.vars false W args.toList ds gs before)
    (hres : ∀ (b : Nat) (sp : Nat → Bool) (hd : Bool), DataW.TrodAll enc P W' b sp hd f.resultTypes.toList (v.resultList f.resultTypes.size) (s.fn H (ds ++ gs)).results [])
    (hargs : DataW.TrodAll enc P W' 0 (fun b => decide (b < W.heap.size)) true f.params.toList args.toList (s.fn H (ds ++ gs)).args pa)
    (hvars : DataW.TrodVars enc P W' (fun b => decide (b < W.heap.size)) s.vars (s.fn H (ds ++ gs)).vars pv) (hb : Below W.heap.size W W') :
    s.post enc P f false fresh handsOn false W args v W' := by
  refine ⟨ds, gs, before, [], pa, pv, hW, hres _ _ _, hargs, hvars, ⟨hb.os, hb.output, fun i hi => ?_⟩, fun h => by cases h⟩
  rw [hb.block i hi]
  cases hx : W.heap[i]? with
  | none => simp
  | some o => cases o <;> simp
end
end Go.Ab
