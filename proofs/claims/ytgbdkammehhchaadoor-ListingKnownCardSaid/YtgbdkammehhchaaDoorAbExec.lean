/- The interpreter of code and functions, by continuations; what it gives is so. -/
import Derived.Test.YtgbdkammehhchaaDoorAbReg
set_option linter.unusedVariables false
namespace Go.Ab

/-! ### Equality of values and blocks, by a run -/

noncomputable def beqL (eq : Value → Value → Bool) : List Value → List Value → Bool
  | [], [] => true
  | x :: xs, y :: ys => eq x y && beqL eq xs ys
  | _, _ => false

theorem beqL_eq {eq : Value → Value → Bool} (h : ∀ x y, eq x y = true → x = y) : ∀ xs ys, beqL eq xs ys = true → xs = ys
  | [], [], _ => rfl
  | x :: xs, y :: ys, hb => by
    simp only [beqL, Bool.and_eq_true] at hb
    rw [h x y hb.1, beqL_eq h xs ys hb.2]
  | [], _ :: _, hb => by simp [beqL] at hb
  | _ :: _, [], hb => by simp [beqL] at hb

noncomputable def beqV : Nat → Value → Value → Bool
  | 0, _, _ => false
  | f + 1, x, y => match x, y with
    | .bool a, .bool b => a == b
    | .int k a, .int k' b => decide (k = k') && decide (a = b)
    | .string a, .string b => decide (bl a = bl b)
    | .pointer a, .pointer b => decide (a = b)
    | .slice a l c, .slice a' l' c' => decide (a = a') && Nat.beq l l' && Nat.beq c c'
    | .map a, .map b => decide (a = b)
    | .nilFunc, .nilFunc => true
    | .nilIface, .nilIface => true
    | .iface t v, .iface t' v' => Nat.beq t t' && beqV f v v'
    | .agg xs, .agg ys => beqL (beqV f) xs.toList ys.toList
    | .tuple xs, .tuple ys => beqL (beqV f) xs.toList ys.toList
    | .func fn xs zs, .func fn' ys us => decide (fn = fn') && beqL (beqV f) xs.toList ys.toList && beqL (beqV f) zs.toList us.toList
    | _, _ => false

theorem beqV_eq : ∀ (f : Nat) (x y : Value), beqV f x y = true → x = y := by
  intro f
  induction f with
  | zero => intro x y h; simp [beqV] at h
  | succ f ih =>
    intro x y h
    have harr : ∀ {xs ys : Array Value}, beqL (beqV f) xs.toList ys.toList = true → xs = ys := fun h => Array.ext' (beqL_eq ih _ _ h)
    unfold beqV at h
    split at h
    · simp at h; rw [h]
    · simp only [Bool.and_eq_true, decide_eq_true_eq] at h; rw [h.1, h.2]
    · rename_i a b
      have h' : bl a = bl b := by simpa using h
      rw [← mkS_bl a, ← mkS_bl b, h']
    · simp at h; rw [h]
    · simp only [Bool.and_eq_true, decide_eq_true_eq, nbeq] at h; rw [h.1.1, h.1.2, h.2]
    · simp at h; rw [h]
    · rfl
    · rfl
    · simp only [Bool.and_eq_true, decide_eq_true_eq, nbeq] at h; rw [h.1, ih _ _ h.2]
    · rw [harr h]
    · rw [harr h]
    · simp only [Bool.and_eq_true, decide_eq_true_eq] at h; rw [h.1.1, harr h.1.2, harr h.2]
    · cases h

noncomputable def beqB : Option Blk → Option Blk → Bool
  | some (.cells c e r), some (.cells c' e' r') => Nat.beq e e' && r == r' && beqL (beqV 8) c c'
  | none, none => true
  | _, _ => false

theorem beqB_eq {x y : Option Blk} (h : beqB x y = true) : x = y := by
  unfold beqB at h
  split at h
  · simp only [Bool.and_eq_true, nbeq, decide_eq_true_eq, beq_iff_eq] at h
    rw [h.1.1, h.1.2, beqL_eq (beqV_eq 8) _ _ h.2]
  · rfl
  · cases h

noncomputable def beqO : Option Value → Value → Bool
  | some x, y => beqV 8 x y
  | none, _ => false
theorem beqO_eq {x : Option Value} {y : Value} (h : beqO x y = true) : x = some y := by
  cases x with
  | none => simp [beqO] at h
  | some x => rw [beqV_eq 8 x y h]

/-! ### Regions that draw their order -/

structure Stp where
  t : Env
  H : Heap
  c : Cls
  v : Value

/-- The operations of a region in the text's order, with each step told. -/
noncomputable def runTrace (P : Program) (call : CallS) (n : Nat) (ops : Array Oper) : List Oper → Env → Heap → Option (List Stp × Env × Heap)
  | [], t, H => some ([], t, H)
  | o :: rest, t, H =>
    bif okOp P n o then
      match wantedA n ops t o with
      | some true => match aop P call o t H with
        | some (c, v, H') => match runTrace P call n ops rest (updO t o.dst v) H' with
          | some (l, r) => some (⟨t, H, c, v⟩ :: l, r)
          | none => none
        | none => none
      | some false => match runTrace P call n ops rest (updO t o.dst undef) H with
        | some (l, r) => some (⟨t, H, .pure, undef⟩ :: l, r)
        | none => none
      | none => none
    else none

/-- Which operations act on memory, by the text. -/
noncomputable def sgen (o : Oper) : Bool :=
  match o.op with
  | .store .. => true
  | .lookup .. => true
  | .mapUpdate .. => true
  | .insert .. => true
  | .next .. => true
  | .call ⟨.builtin b, _, _⟩ => match b with | .len | .cap | .max | .min | .unsafeSliceData => false | _ => true
  | .call _ => true
  | _ => false

noncomputable def sgenAt (ops : Array Oper) (i : Nat) : Bool := match ops[i]? with | some o => sgen o | none => false

noncomputable def heapAt (l : List Stp) (H : Heap) (i : Nat) : Heap := match l[i]? with | some s => s.H | none => H

/-- What must be asked of a step by the run: of a load, that no other step that acts on memory changes what it loads; of a new block, that none touches it. -/
noncomputable def stepChk (P : Program) (ops : Array Oper) (ms : List Nat) (l : List Stp) (H : Heap) (i : Nat) (s : Stp) : Bool :=
  Nat.ble s.H.next (heapAt l H (i + 1)).next &&
  match s.c with
  | .pure => true
  | .gen => sgenAt ops i
  | .load => match ops[i]? with
    | some o => match o.op with
      | .load t x => match ev (s.t) x with
        | .pointer (some a) => (List.range ops.size).all fun k => !(sgenAt ops k) || ordered ms i k || ordered ms k i ||
            (beqO (aload P t a (heapAt l H k)) s.v && beqO (aload P t a (heapAt l H (k + 1))) s.v && belowV s.H.next 6 s.v)
        | _ => false
      | _ => false
    | none => false
  | .alloc b => (List.range ops.size).all fun k => !(sgenAt ops k) || !(Nat.blt i k) || ordered ms i k || beqB ((heapAt l H (k + 1)).get s.H.next) ((heapAt l H k).get s.H.next)

noncomputable def allIdx (p : Nat → Stp → Bool) : Nat → List Stp → Bool
  | _, [] => true
  | i, s :: l => p i s && allIdx p (i + 1) l

theorem allIdx_spec {p : Nat → Stp → Bool} : ∀ (l : List Stp) (i : Nat), allIdx p i l = true → ∀ (j : Nat) s, l[j]? = some s → p (i + j) s = true
  | [], _, _, j, s, h => by simp at h
  | x :: l, i, h, j, s, hj => by
    simp only [allIdx, Bool.and_eq_true] at h
    cases j with
    | zero => simp at hj; subst hj; exact h.1
    | succ j => have := allIdx_spec l (i + 1) h.2 j s (by simpa using hj); rwa [show i + 1 + j = i + (j + 1) by omega] at this

/-- The steps' values, laid into the temporaries. -/
noncomputable def putAll : List Oper → List Stp → E → E
  | o :: os, s :: ss, e => putAll os ss (putT e o.dst s.v)
  | _, _, e => e

noncomputable def runDraw (P : Program) (call : CallS) (n : Nat) (ops : Array Oper) (t : Env) (H : Heap) : Option (List Stp × Env × Heap) :=
  bif P.follows .mixedOrders && drawOk ops (sgenAt ops) then
    match runTrace P call n ops ops.toList t H with
    | some (l, t1, H1) => bif allIdx (stepChk P ops (masks ops.toList []) l H1) 0 l then some (l, t1, H1) else none
    | none => none
  else none

section
variable {P : Program} {n : Nat} {Q : Ex → Env → Heap → Prop}

/-- One step of a trace. -/
noncomputable def StpOk (P : Program) (call : CallS) (n : Nat) (ops : Array Oper) (o : Oper) (s : Stp) (t' : Env) (H' : Heap) : Prop :=
  okOp P n o = true ∧ t' = updO s.t o.dst s.v ∧ ((wantedA n ops (s.t) o = some true ∧ aop P call o (s.t) s.H = some (s.c, s.v, H')) ∨ (wantedA n ops (s.t) o = some false ∧ s.c = .pure ∧ s.v = undef ∧ H' = s.H))

theorem runTrace_spec {call : CallS} {ops : Array Oper} : ∀ (l : List Oper) (t : Env) (H : Heap) (tr : List Stp) (t1 : Env) (H1 : Heap), runTrace P call n ops l t H = some (tr, t1, H1) →
    tr.length = l.length ∧ (match tr[0]? with | some s => s.t = t ∧ s.H = H | none => t1 = t ∧ H1 = H) ∧
    ∀ (j : Nat) o s, l[j]? = some o → tr[j]? = some s → StpOk P call n ops o s (match tr[j + 1]? with | some s' => s'.t | none => t1) (heapAt tr H1 (j + 1))
  | [], t, H, tr, t1, H1, h => by simp only [runTrace, Option.some.injEq, Prod.mk.injEq] at h; obtain ⟨rfl, rfl, rfl⟩ := h; exact ⟨rfl, ⟨rfl, rfl⟩, fun j o s hj => by simp at hj⟩
  | o :: rest, t, H, tr, t1, H1, h => by
    have step : ∀ (s : Stp) (l : List Stp) (t' : Env) (H' : Heap), s.t = t → s.H = H → runTrace P call n ops rest t' H' = some (l, t1, H1) → tr = s :: l → StpOk P call n ops o s t' H' →
        tr.length = (o :: rest).length ∧ (match tr[0]? with | some s => s.t = t ∧ s.H = H | none => t1 = t ∧ H1 = H) ∧
        ∀ (j : Nat) o' s, (o :: rest)[j]? = some o' → tr[j]? = some s → StpOk P call n ops o' s (match tr[j + 1]? with | some s' => s'.t | none => t1) (heapAt tr H1 (j + 1)) := by
      intro s l t' H' e1 e2 hl htr hok
      obtain ⟨i1, i2, i3⟩ := runTrace_spec rest t' H' l t1 H1 hl
      subst htr
      refine ⟨by simp [i1], by simp [e1, e2], fun j o' s' hj hs => ?_⟩
      cases j with
      | zero =>
        simp only [List.getElem?_cons_zero, Option.some.injEq] at hj hs
        subst hj; subst hs
        have : (match (s :: l)[0 + 1]? with | some s' => s'.t | none => t1) = t' ∧ heapAt (s :: l) H1 (0 + 1) = H' := by
          simp only [heapAt, Nat.zero_add, List.getElem?_cons_succ]
          cases hl0 : l[0]? with
          | none => rw [hl0] at i2; exact ⟨i2.1, i2.2⟩
          | some s1 => rw [hl0] at i2; exact ⟨i2.1, i2.2⟩
        rw [this.1, this.2]
        exact hok
      | succ j =>
        have := i3 j o' s' (by simpa using hj) (by simpa using hs)
        simpa [heapAt] using this
    unfold runTrace at h
    cases hok : okOp P n o with
    | false => rw [hok] at h; cases h
    | true =>
      rw [hok] at h
      simp only [cond_true] at h
      split at h
      · rename_i hw
        split at h
        · rename_i c v H' ha
          split at h
          · rename_i l r hl
            obtain ⟨t1', H1'⟩ := r
            simp only [Option.some.injEq, Prod.mk.injEq] at h
            obtain ⟨rfl, rfl, rfl⟩ := h
            exact step ⟨t, H, c, v⟩ l _ H' rfl rfl hl rfl ⟨hok, rfl, .inl ⟨hw, ha⟩⟩
          · cases h
        · cases h
      · rename_i hw
        split at h
        · rename_i l r hl
          obtain ⟨t1', H1'⟩ := r
          simp only [Option.some.injEq, Prod.mk.injEq] at h
          obtain ⟨rfl, rfl, rfl⟩ := h
          exact step ⟨t, H, .pure, undef⟩ l _ H rfl rfl hl rfl ⟨hok, rfl, .inr ⟨hw, rfl, rfl, rfl⟩⟩
        · cases h
      · cases h

theorem drawOk_mono {ops : Array Oper} {g g' : Nat → Bool} (h : ∀ i, i < ops.size → g i = true → g' i = true) (hd : drawOk ops g' = true) : drawOk ops g = true := by
  unfold drawOk at hd ⊢
  simp only [List.all_eq_true, List.mem_range] at hd ⊢
  intro j hj
  have h1 := hd j hj
  split
  · rfl
  · rename_i o ho
    rw [ho] at h1
    simp only [Bool.and_eq_true, List.all_eq_true, List.mem_range] at h1 ⊢
    refine ⟨h1.1, fun i hi => ?_⟩
    have h2 := h1.2 i hi
    split
    · rfl
    · rename_i oi hoi
      rw [hoi] at h2
      simp only [Bool.and_eq_true] at h2 ⊢
      refine ⟨h2.1, ?_⟩
      have h3 := h2.2
      cases gi : g i with
      | false => simp
      | true =>
        cases gj : g j with
        | false => simp
        | true => simpa [h i hi gi, h j hj gj] using h3

theorem runDraw_sound {call : CallS} (hcall : CallSOk P call) {id : Nat} {ops : Array Oper} {t t1 : Env} {H H1 : Heap} {tr : List Stp} (h : runDraw P call n ops t H = some (tr, t1, H1)) (hq : Q .normal t1 H1) : AWp P n (.region id ops true) Q t H := by
  unfold runDraw at h
  cases hc : (P.follows .mixedOrders && drawOk ops (sgenAt ops)) with
  | false => rw [hc] at h; cases h
  | true =>
    rw [hc] at h
    simp only [cond_true] at h
    simp only [Bool.and_eq_true] at hc
    obtain ⟨hm, hd⟩ := hc
    split at h
    · rename_i l t1' H1' htr
      cases hall : allIdx (stepChk P ops (masks ops.toList []) l H1') 0 l with
      | false => rw [hall] at h; cases h
      | true =>
        rw [hall] at h
        simp only [cond_true, Option.some.injEq, Prod.mk.injEq] at h
        obtain ⟨rfl, rfl, rfl⟩ := h
        obtain ⟨s1, s2, s3⟩ := runTrace_spec ops.toList t H l t1' H1' htr
        have hlen : l.length = ops.size := by simpa using s1
        have hchk : ∀ (j : Nat) s, l[j]? = some s → stepChk P ops (masks ops.toList []) l H1' j s = true := fun j s hj => by have := allIdx_spec l 0 hall j s hj; rwa [Nat.zero_add] at this
        let As : Nat → Env := fun i => match l[i]? with | some s => s.t | none => t1'
        let Hs : Nat → Heap := heapAt l H1'
        let vs : Nat → Value := fun i => match l[i]? with | some s => s.v | none => undef
        let cls : Nat → Cls := fun i => match l[i]? with | some s => s.c | none => .pure
        have hat : ∀ (i : Nat) o, ops[i]? = some o → ∃ s, l[i]? = some s := fun i o ho => by
          have : i < l.length := by rw [hlen]; exact (Array.getElem?_eq_some_iff.1 ho).1
          exact ⟨l[i], List.getElem?_eq_getElem this⟩
        have hgen : ∀ i, i < ops.size → isGen (cls i) = true → sgenAt ops i = true := fun i hi hg => by
          obtain ⟨s, hs⟩ := hat i ops[i] (Array.getElem?_eq_getElem hi)
          have hcl : cls i = s.c := by simp only [cls, hs]
          rw [hcl] at hg
          have hk := hchk i s hs
          unfold stepChk at hk
          simp only [Bool.and_eq_true] at hk
          cases hsc : s.c with
          | gen => rw [hsc] at hk; exact hk.2
          | _ => rw [hsc] at hg; cases hg
        have F : Facts P n ops As Hs vs cls := by
          refine ⟨fun i o ho => ?_, fun i hi => ?_, fun i o ho => ?_, fun i o ho => ?_, drawOk_mono hgen hd⟩
          · obtain ⟨s, hs⟩ := hat i o ho
            have hok := s3 i o s (by simpa using ho) hs
            have e1 : As i = s.t := by simp only [As, hs]
            have e2 : vs i = s.v := by simp only [vs, hs]
            rw [e1, e2, ← hok.2.1]
          · obtain ⟨s, hs⟩ := hat i ops[i] (Array.getElem?_eq_getElem hi)
            have hk := hchk i s hs
            unfold stepChk at hk
            simp only [Bool.and_eq_true] at hk
            have e1 : Hs i = s.H := by simp only [Hs, heapAt, hs]
            rw [e1]
            simpa using hk.1
          · obtain ⟨s, hs⟩ := hat i o ho
            exact (s3 i o s (by simpa using ho) hs).1
          · obtain ⟨s, hs⟩ := hat i o ho
            have hok := s3 i o s (by simpa using ho) hs
            have hk := hchk i s hs
            have e1 : As i = s.t := by simp only [As, hs]
            have e2 : vs i = s.v := by simp only [vs, hs]
            have e3 : Hs i = s.H := by simp only [Hs, heapAt, hs]
            have e4 : cls i = s.c := by simp only [cls, hs]
            unfold StepOk
            rw [e1, e2, e3, e4]
            rcases hok.2.2 with ⟨hw, ha⟩ | ⟨hw, hc0, hv0, hH0⟩
            · right
              refine ⟨hw, ?_⟩
              have hcl := aop_sound hcall ha
              unfold stepChk at hk
              simp only [Bool.and_eq_true] at hk
              cases hsc : s.c with
              | pure => rw [hsc] at hcl; exact hcl
              | gen => rw [hsc] at hcl; exact hcl
              | alloc b =>
                rw [hsc] at hcl hk
                refine ⟨hcl.1, hcl.2, fun k hk1 hik hgk ho' => ?_⟩
                have := List.all_eq_true.1 hk.2 k (List.mem_range.2 hk1)
                have hb : Nat.blt i k = true := by simpa using hik
                simp only [hgen k hk1 hgk, hb, ho', Bool.not_true, Bool.false_or] at this
                exact beqB_eq this
              | load =>
                rw [hsc] at hcl hk
                obtain ⟨h1, tt, x, a, hop, ex, hl⟩ := hcl
                refine ⟨h1, tt, x, a, hop, ex, hl, fun k hk1 hgk o1 o2 => ?_⟩
                have hk2 := hk.2
                rw [ho] at hk2
                simp only [hop, ex] at hk2
                have := List.all_eq_true.1 hk2 k (List.mem_range.2 hk1)
                simp only [hgen k hk1 hgk, o1, o2, Bool.not_true, Bool.false_or, Bool.and_eq_true] at this
                exact ⟨beqO_eq this.1.1, beqO_eq this.1.2, this.2⟩
            · left
              exact ⟨hw, hv0, hH0, hc0⟩
        have hN : l[ops.size]? = none := List.getElem?_eq_none (by omega)
        have eN : As ops.size = t1' := by simp only [As, hN]
        have eH : Hs ops.size = H1' := by simp only [Hs, heapAt, hN]
        have e0 : As 0 = t ∧ Hs 0 = H := by
          cases hl0 : l[0]? with
          | none => rw [hl0] at s2; simp only [As, Hs, heapAt, hl0, s2.1, s2.2, and_self]
          | some s => rw [hl0] at s2; simp only [As, Hs, heapAt, hl0, s2.1, s2.2, and_self]
        have := awp_draw (id := id) (Q := Q) hm F (by rw [eN, eH]; exact hq)
        rw [e0.1, e0.2] at this
        exact this
    · cases h

theorem aops_wanted {ops : Array Oper} {o : Oper} {rest : List Oper} {A : Env} {H : Heap} {b : Bool} {j : Nat} {want : Bool} (hg : o.guard = some (j, want)) (hw : wantedA n ops A o = some b)
    (hyes : b = true → ∃ v H', OpDoes P o A H v H' ∧ AOps P n ops rest Q (updO A o.dst v) H') (hno : b = false → AOps P n ops rest Q (updO A o.dst undef) H) (hd : okOp P n o = true) : AOps P n ops (o :: rest) Q A H := by
  intro z ρ w a hs he
  have hwc : Region.wanted o (yielded ops a.tmps) = b := by
    unfold wantedA at hw
    rw [hg] at hw
    simp only at hw
    split at hw
    · rename_i t hsl
      split at hw
      · rename_i htn
        have hv := he.tmps t htn
        have hlt : t < a.tmps.size := by rw [he.size]; exact htn
        rw [Array.getD_eq_getD_getElem?, Array.getElem?_eq_getElem hlt] at hv
        simp only [Option.getD_some] at hv
        have hsl' := hsl
        unfold guardSlot at hsl'
        split at hw
        · rename_i b0 eb
          cases hw
          rw [eb] at hv
          have hcb : a.tmps[t]? = some (.bool b0) := by rw [Array.getElem?_eq_getElem hlt, hv.plain_eq rfl]
          have hy : yielded ops a.tmps j = some b0 := by unfold yielded; rw [hsl']; simp [hcb]
          simp [Region.wanted, hg, hy]
        · rename_i vs0 eb
          cases hw
          rw [eb] at hv
          obtain ⟨vs1, e1, _⟩ := hv.tuple_inv
          have hcb : a.tmps[t]? = some (.tuple vs1) := by rw [Array.getElem?_eq_getElem hlt, e1]
          have hy : yielded ops a.tmps j = none := by unfold yielded; rw [hsl']; simp [hcb]
          simp [Region.wanted, hg, hy]
        · cases hw
      · cases hw
    · cases hw
  refine wpListIn_step fun K hK => ?_
  cases b with
  | true =>
    obtain ⟨v, H', ho, h⟩ := hyes rfl
    rw [if_pos hwc]
    refine ho ρ w a hs (he.op hs hd) K _ (fun v' ρ' w' hv hst hs' => ?_) z
    have := h z ρ' w' (a.put o.dst v') hs' ((he.step hst).putO (okOp_dst hd) hv)
    exact hK _ _ (wpList_lift hst this)
  | false =>
    rw [if_neg (by rw [hwc]; simp)]
    exact ⟨fun _ _ => trivial, hK _ _ (hno rfl z ρ w _ hs (he.putO (okOp_dst hd) (.closed (by simp [undef, closedV]))))⟩

end
end Go.Ab
