/- What is said of code made of resolved operations holds of the code that it came from. -/
import Derived.Test.YtfdeejmibgpbhaaDoorAbPex
import Derived.Test.YtfdeejmibgpbhaaDoorAbCps
set_option linter.unusedVariables false
namespace Go.Ab
section
variable {P : Program} {n : Nat}

theorem pg_wanted {ops : Array Oper} {o : Oper} {g : Option (Nat × Bool)} {A : Env} {yes no : Prop} (hc : cGuard n ops o = some g) (h : pg g A yes no) :
    (wantedA n ops A o = some true ∧ yes) ∨ (wantedA n ops A o = some false ∧ no) := by
  unfold cGuard at hc
  unfold wantedA
  split at hc
  · rename_i hg
    cases hc
    exact .inl ⟨by rw [hg], h⟩
  · rename_i j want hg
    rw [hg]
    split at hc
    · rename_i t ht
      split at hc
      · rename_i hlt
        cases hc
        have h' : (match A t with | .bool b => if b = want then yes else no | .tuple _ => no | _ => False) := h
        simp only [ht, hlt, if_true]
        split at h'
        · rename_i b hb
          split at h'
          · rename_i e; exact .inl ⟨by simp [hb, e], h'⟩
          · rename_i e; exact .inr ⟨by simp [hb, e], h'⟩
        · rename_i hb; exact .inr ⟨by simp [hb], h'⟩
        · exact h'.elim
      · cases hc
    · cases hc

theorem resolve_call {op : Op} {f : FuncId} {args : List Operand} (h : resolve1 P op = .call f args) : ∃ a ts, op = .call ⟨.value (.func f), a, ts⟩ ∧ args = a.toList := by
  unfold resolve1 at h
  repeat' (split at h)
  all_goals first
    | (cases h; done)
    | (cases h; exact ⟨_, _, rfl, rfl⟩)

theorem resolve_callv {op : Op} {c : Operand} {args : List Operand} (h : resolve1 P op = .callv c args) : ∃ a ts, op = .call ⟨.value c, a, ts⟩ ∧ args = a.toList := by
  unfold resolve1 at h
  repeat' (split at h)
  all_goals first
    | (cases h; done)
    | (cases h; exact ⟨_, _, rfl, rfl⟩)

theorem resolve_stf {op : Op} {size : Nat} {x y : Operand} {os : List Operand} (h : resolve1 P op = .stf size x y os) : False := by
  unfold resolve1 at h
  repeat' (split at h)
  all_goals cases h

theorem pr_does {o : Oper} {s : Bool} {A : Env} {H : Heap} {k : Value → Heap → Prop} (hw : H.Wf) (h : pr P (resolve1 P o.op) s A H k) :
    ∃ c v H', ClsOk P o A H v H' c ∧ Syn o H H' c ∧ (s = true → isCallF o = true → ∀ id, H'.get id = H.get id) ∧ (s = true → isLd o = true → belowV H.next 6 v = true) ∧ k v H' := by
  obtain ⟨dst, op, ty, pos, af, g⟩ := o
  have other : onS (rop P (resolve1 P op) A H) (fun v H' => (s = true → belowV H.next 6 v = true) ∧ k v H') →
      ∃ c v H', ClsOk P ⟨dst, op, ty, pos, af, g⟩ A H v H' c ∧ Syn ⟨dst, op, ty, pos, af, g⟩ H H' c ∧ (s = true → isCallF ⟨dst, op, ty, pos, af, g⟩ = true → ∀ id, H'.get id = H.get id) ∧ (s = true → isLd ⟨dst, op, ty, pos, af, g⟩ = true → belowV H.next 6 v = true) ∧ k v H' := fun ⟨v, H', hr, hs, hk⟩ => by
    obtain ⟨c, ha⟩ := resolve_ok hr
    have ha : aop P noCall ⟨dst, op, ty, pos, af, g⟩ A H = some (c, v, H') := ha
    refine ⟨c, v, H', aop_sound noCall_ok ha, aop_syn ha, fun _ hc => ?_, fun h _ => hs h, hk⟩
    unfold isCallF at hc
    split at hc
    · rename_i f a ts hop
      simp only at hop
      subst hop
      unfold aop at ha
      simp only [a_call] at ha
      split at ha
      · rename_i he; cases he
      · simp [noCall] at ha
      · split at ha
        · simp [noCall] at ha
        · cases ha
      · cases ha
    · cases hc
  simp only [pr] at h
  split at h
  · rename_i f args hr
    obtain ⟨a, ts, hop, rfl⟩ := resolve_call hr
    subst hop
    obtain ⟨v, H', hc, hn, hwf, hs, hk⟩ := h hw
    refine ⟨.gen, v, H', od_call (by simpa using hc), ⟨fun _ => rfl, fun h => (by cases h), fun b h => (by cases h), hn, fun _ => hwf⟩, fun h _ => hs h, fun _ h => (by cases h), hk⟩
  · rename_i c args hr
    obtain ⟨a, ts, hop, rfl⟩ := resolve_callv hr
    subst hop
    split at h
    · rename_i f xs ys hv
      obtain ⟨v, H', hc, hn, hwf, hs, hk⟩ := h hw
      refine ⟨.gen, v, H', od_callv hv (by simpa using hc), ⟨fun _ => rfl, fun h => (by cases h), fun b h => (by cases h), hn, fun _ => hwf⟩, fun h _ => hs h, fun _ h => (by cases h), hk⟩
    · exact h.elim
  · rename_i hr; exact (resolve_stf hr).elim
  · exact other h

/-- A store that tells which loads it may meet: it touches none of their blocks. -/
def Sep (o : Oper) (os : List Operand) (A : Env) (H H' : Heap) : Prop := isSt o = true → ∃ a : Nat, (∀ id, id ≠ a → H'.get id = H.get id) ∧ ∀ z ∈ os, ∃ b : Addr, ev A z = .pointer (some b) ∧ b.block ≠ a

theorem pr_does2 {ops : Array Oper} {i : Nat} {o : Oper} {s : Bool} {A : Env} {H : Heap} {k : Value → Heap → Prop} (hw : H.Wf) (h : pr P (resolve2 P ops s i o) s A H k) :
    ∃ c v H', ClsOk P o A H v H' c ∧ Syn o H H' c ∧ (s = true → isCallF o = true → ∀ id, H'.get id = H.get id) ∧ (s = true → isLd o = true → belowV H.next 6 v = true) ∧ (s = true → Sep o (others ops (masks ops.toList []) i) A H H') ∧ k v H' := by
  cases s with
  | false =>
    obtain ⟨c, v, H', h1, h2, h3, h4, h5⟩ := pr_does hw h
    exact ⟨c, v, H', h1, h2, h3, h4, fun h => (by cases h), h5⟩
  | true =>
    have h : pr P (resolveF P ops i o) true A H k := h
    have plainly : isSt o = false → resolveF P ops i o = resolve1 P o.op → ∃ c v H', ClsOk P o A H v H' c ∧ Syn o H H' c ∧ (true = true → isCallF o = true → ∀ id, H'.get id = H.get id) ∧ (true = true → isLd o = true → belowV H.next 6 v = true) ∧ (true = true → Sep o (others ops (masks ops.toList []) i) A H H') ∧ k v H' := fun hns e => by
      rw [e] at h
      obtain ⟨c, v, H', h1, h2, h3, h4, h5⟩ := pr_does hw h
      exact ⟨c, v, H', h1, h2, h3, h4, fun _ hs => (by rw [hns] at hs; cases hs), h5⟩
    cases hst : isSt o with
    | false =>
      refine plainly hst ?_
      unfold resolveF
      unfold isSt at hst
      split
      · rename_i t x y hop; rw [hop] at hst; cases hst
      · rfl
    | true =>
      unfold isSt at hst
      split at hst
      · rename_i t x y hop
        unfold resolveF at h
        rw [hop] at h
        simp only at h
        cases hin : P.info? t with
        | none =>
          rw [hin] at h
          have e : resolve1 P (.store t x y) = .gen (.store t x y) := by simp [resolve1, hin]
          simp only at h
          rw [e] at h
          obtain ⟨v, H', hr, hs, hk⟩ := h
          simp only [rop, aop, a_store, astore, hin] at hr
          split at hr
          · rename_i hh; repeat' (split at hh)
            all_goals (first | (cases hh; done) | (rename_i h9; cases h9))
          · cases hr
        | some inf =>
          rw [hin] at h
          obtain ⟨v, H', hr, hs, hk⟩ := h
          have e : resolve1 P o.op = .st inf.size x y := by rw [hop]; simp [resolve1, hin]
          obtain ⟨c, v1, H1, h1, h2, h3, h4, h5⟩ := pr_does (s := false) (k := fun v' H1 => v' = v ∧ H1 = H') hw (o := o) (by
            rw [e]; exact ⟨v, H', hr, fun h => (by cases h), rfl, rfl⟩)
          obtain ⟨rfl, rfl⟩ := h5
          refine ⟨c, v1, H1, h1, h2, fun _ hc => ?_, fun _ hl => ?_, fun _ _ => ?_, hk⟩
          · unfold isCallF at hc; rw [hop] at hc; cases hc
          · unfold isLd at hl; rw [hop] at hl; cases hl
          · simp only [rop] at hr
            split at hr
            · rename_i a ha
              split at hr
              · rename_i c' e' hg
                split at hr
                · simp only [Option.some.injEq, Prod.mk.injEq] at hr
                  obtain ⟨_, rfl⟩ := hr
                  refine ⟨a.block, fun id hid => by rw [Heap.get_set, if_neg hid], fun z hz => ?_⟩
                  have hap := hs z hz
                  rw [ha] at hap
                  unfold apartV at hap
                  split at hap
                  · rename_i a1 b1 e1 e2; cases e1; exact ⟨b1, e2, hap⟩
                  · exact hap.elim
                · cases hr
              · cases hr
            · cases hr
      · cases hst

theorem pops_sound {ops : Array Oper} {fl : Nat → Bool} : ∀ (l : List Oper) (i : Nat) (pl : List PO) (k : Env → Heap → Prop) (A : Env) (H : Heap), H.Wf → compOps P n ops fl l i = some pl → pops P pl k A H →
    ∃ A1 H1, H1.Wf ∧ k A1 H1 ∧ AOps P n ops l (fun e A' H' => e = .normal ∧ A' = A1 ∧ H' = H1) A H
  | [], i, pl, k, A, H, hwf, hc, h => by
    simp only [compOps, Option.some.injEq] at hc
    subst hc
    exact ⟨A, H, hwf, h, aops_nil ⟨rfl, rfl, rfl⟩⟩
  | o :: l, i, pl, k, A, H, hwf, hc, h => by
    unfold compOps at hc
    split at hc
    · rename_i hok
      split at hc
      · rename_i g pl1 hg hpl
        cases hc
        have h : pg g A (pr P (resolve2 P ops (fl i) i o) (fl i) A H fun v H' => pops P pl1 k (updO A o.dst v) H') (pops P pl1 k (updO A o.dst undef) H) := h
        rcases pg_wanted hg h with ⟨hw, hy⟩ | ⟨hw, hn⟩
        · obtain ⟨c, v, H', h1, h2, h3, h4, _, h5⟩ := pr_does2 hwf hy
          obtain ⟨A1, H1, hw1, hk, ha⟩ := pops_sound l (i + 1) pl1 k _ _ (h2.wf hwf) hpl h5
          refine ⟨A1, H1, hw1, hk, ?_⟩
          cases hgd : o.guard with
          | none => exact aops_cons hgd h1.does hok ha
          | some jw =>
            obtain ⟨j, w⟩ := jw
            exact aops_wanted hgd hw (fun _ => ⟨v, H', h1.does, ha⟩) (fun hh => by cases hh) hok
        · obtain ⟨A1, H1, hw1, hk, ha⟩ := pops_sound l (i + 1) pl1 k _ _ hwf hpl hn
          refine ⟨A1, H1, hw1, hk, ?_⟩
          cases hgd : o.guard with
          | none => simp [wantedA, hgd] at hw
          | some jw =>
            obtain ⟨j, w⟩ := jw
            exact aops_wanted hgd hw (fun hh => by cases hh) (fun _ => ha) hok
      · cases hc
    · cases hc

/-- One step of a trace. -/
structure StR (P : Program) (n : Nat) (ops : Array Oper) (fl : Nat → Bool) (i : Nat) (o : Oper) (s : Stp) (t' : Env) (H' : Heap) : Prop where
  ok : okOp P n o = true
  wf : s.H.Wf
  env : t' = updO s.t o.dst s.v
  next : s.H.next ≤ H'.next
  run : (wantedA n ops s.t o = some true ∧ ClsOk P o s.t s.H s.v H' s.c ∧ Syn o s.H H' s.c ∧ (fl i = true → isCallF o = true → ∀ id, H'.get id = s.H.get id) ∧ (fl i = true → isLd o = true → belowV s.H.next 6 s.v = true) ∧ (fl i = true → Sep o (others ops (masks ops.toList []) i) s.t s.H H')) ∨
    (wantedA n ops s.t o = some false ∧ s.c = .pure ∧ s.v = undef ∧ H' = s.H)

noncomputable def envAt (l : List Stp) (t : Env) (i : Nat) : Env := match l[i]? with | some s => s.t | none => t

theorem pops_trace {ops : Array Oper} {fl : Nat → Bool} : ∀ (l : List Oper) (i : Nat) (pl : List PO) (k : Env → Heap → Prop) (A : Env) (H : Heap), H.Wf → compOps P n ops fl l i = some pl → pops P pl k A H →
    ∃ tr A1 H1, H1.Wf ∧ k A1 H1 ∧ tr.length = l.length ∧ envAt tr A1 0 = A ∧ heapAt tr H1 0 = H ∧ ∀ (j : Nat) o s, l[j]? = some o → tr[j]? = some s → StR P n ops fl (i + j) o s (envAt tr A1 (j + 1)) (heapAt tr H1 (j + 1))
  | [], i, pl, k, A, H, hwf, hc, h => by
    simp only [compOps, Option.some.injEq] at hc
    subst hc
    exact ⟨[], A, H, hwf, h, rfl, rfl, rfl, fun j o s h => by simp at h⟩
  | o :: l, i, pl, k, A, H, hwf, hc, h => by
    unfold compOps at hc
    split at hc
    · rename_i hok
      split at hc
      · rename_i g pl1 hg hpl
        cases hc
        have h : pg g A (pr P (resolve2 P ops (fl i) i o) (fl i) A H fun v H' => pops P pl1 k (updO A o.dst v) H') (pops P pl1 k (updO A o.dst undef) H) := h
        have step : ∀ (s : Stp) (t' : Env) (H' : Heap), s.t = A → s.H = H → H'.Wf → pops P pl1 k t' H' → StR P n ops fl i o s t' H' →
            ∃ tr A1 H1, H1.Wf ∧ k A1 H1 ∧ tr.length = (o :: l).length ∧ envAt tr A1 0 = A ∧ heapAt tr H1 0 = H ∧ ∀ (j : Nat) o' s, (o :: l)[j]? = some o' → tr[j]? = some s → StR P n ops fl (i + j) o' s (envAt tr A1 (j + 1)) (heapAt tr H1 (j + 1)) := by
          intro s t' H' e1 e2 hw' hp hst
          obtain ⟨tr, A1, H1, hw1, hk, hl, ht, hh, hs⟩ := pops_trace l (i + 1) pl1 k t' H' hw' hpl hp
          refine ⟨s :: tr, A1, H1, hw1, hk, by simp [hl], by simp [envAt, e1], by simp [heapAt, e2], fun j o' s' hj hs' => ?_⟩
          cases j with
          | zero =>
            simp only [List.getElem?_cons_zero, Option.some.injEq] at hj hs'
            subst hj; subst hs'
            have h1 : envAt (s :: tr) A1 (0 + 1) = t' := by rw [← ht]; simp [envAt]
            have h2 : heapAt (s :: tr) H1 (0 + 1) = H' := by rw [← hh]; simp [heapAt]
            rw [h1, h2]
            exact hst
          | succ j =>
            have := hs j o' s' (by simpa using hj) (by simpa using hs')
            rw [show i + (j + 1) = i + 1 + j by omega]
            simpa [envAt, heapAt] using this
        rcases pg_wanted hg h with ⟨hw, hy⟩ | ⟨hw, hn⟩
        · obtain ⟨c, v, H', h1, h2, h3, h4, h6, h5⟩ := pr_does2 hwf hy
          exact step ⟨A, H, c, v⟩ _ H' rfl rfl (h2.wf hwf) h5 ⟨hok, hwf, rfl, h2.next, .inl ⟨hw, h1, h2, h3, h4, h6⟩⟩
        · exact step ⟨A, H, .pure, undef⟩ _ H rfl rfl hwf hn ⟨hok, hwf, rfl, Nat.le_refl _, .inr ⟨hw, rfl, rfl, rfl⟩⟩
      · cases hc
    · cases hc

theorem heaps_same {Hs : Nat → Heap} {a b : Nat} (hab : a ≤ b) (h : ∀ j, a ≤ j → j < b → ∀ id, (Hs (j + 1)).get id = (Hs j).get id) : ∀ id, (Hs b).get id = (Hs a).get id := by
  induction b with
  | zero => rw [Nat.le_zero.1 hab]; exact fun _ => rfl
  | succ b ih =>
    intro id
    rcases Nat.lt_or_ge a (b + 1) with h1 | h1
    · rw [h b (by omega) (by omega)]; exact ih (by omega) (fun j hj hj' => h j hj (by omega)) id
    · rw [show a = b + 1 by omega]

theorem aload_get {t : TypeId} {a : Addr} {H1 H2 : Heap} (h : ∀ id, H1.get id = H2.get id) : aload P t a H1 = aload P t a H2 := by
  unfold aload
  rw [h]

theorem aload_get1 {t : TypeId} {a : Addr} {H1 H2 : Heap} (h : H1.get a.block = H2.get a.block) : aload P t a H1 = aload P t a H2 := by
  unfold aload
  rw [h]

theorem draw_sound {id : Nat} {ops : Array Oper} {pl : List PO} {k : Env → Heap → Prop} {A : Env} {H : Heap} (hwf : H.Wf) (hm : P.follows .mixedOrders = true) (hd : drawOk ops (sgenAt ops) = true) (hck : drawChk ops (masks ops.toList []) = true)
    (hc : compOps P n ops (flagged ops (masks ops.toList [])) ops.toList 0 = some pl) (h : pops P pl k A H) :
    ∃ A1 H1, H1.Wf ∧ k A1 H1 ∧ AWp P n (.region id ops true) (fun e A' H' => e = .normal ∧ A' = A1 ∧ H' = H1) A H := by
  obtain ⟨tr, A1, H1, hw1, hk, hl, hA, hH, hs⟩ := pops_trace ops.toList 0 pl k A H hwf hc h
  refine ⟨A1, H1, hw1, hk, ?_⟩
  have hlen : tr.length = ops.size := by simpa using hl
  let As : Nat → Env := envAt tr A1
  let Hs : Nat → Heap := heapAt tr H1
  let vs : Nat → Value := fun i => match tr[i]? with | some s => s.v | none => undef
  let cls : Nat → Cls := fun i => match tr[i]? with | some s => s.c | none => .pure
  have hat : ∀ (i : Nat) o, ops[i]? = some o → ∃ s, tr[i]? = some s ∧ StR P n ops (flagged ops (masks ops.toList [])) i o s (As (i + 1)) (Hs (i + 1)) ∧ As i = s.t ∧ Hs i = s.H ∧ vs i = s.v ∧ cls i = s.c := fun i o ho => by
    have hlt : i < tr.length := by rw [hlen]; exact (Array.getElem?_eq_some_iff.1 ho).1
    have hi := List.getElem?_eq_getElem hlt
    refine ⟨tr[i], hi, by have := hs i o tr[i] (by simpa using ho) hi; rwa [Nat.zero_add] at this, ?_, ?_, ?_, ?_⟩ <;> simp only [As, Hs, vs, cls, envAt, heapAt, hi]
  have hops : ∀ i, i < ops.size → ∃ o, ops[i]? = some o := fun i hi => ⟨ops[i], Array.getElem?_eq_getElem hi⟩
  have hgen : ∀ i, i < ops.size → isGen (cls i) = true → sgenAt ops i = true := fun i hi hg => by
    obtain ⟨o, ho⟩ := hops i hi
    obtain ⟨s, hsi, hst, _, _, _, e4⟩ := hat i o ho
    rw [e4] at hg
    simp only [sgenAt, ho]
    rcases hst.run with ⟨_, _, hsyn, _⟩ | ⟨_, hc0, _⟩
    · exact hsyn.gen hg
    · rw [hc0] at hg; cases hg
  have hchk : ∀ k', k' < ops.size → sgenAt ops k' = true → flagged ops (masks ops.toList []) k' = true → (callAt ops k' = true ∧ ∀ i, i < ops.size → ldAt ops i = true → ordered (masks ops.toList []) i k' = false → ordered (masks ops.toList []) k' i = false → quiet ops (masks ops.toList []) i k' = true) ∨
      (stAt ops k' = true ∧ ∀ i, i < ops.size → (ldAt ops i = true → ordered (masks ops.toList []) i k' = false → ordered (masks ops.toList []) k' i = false → calm ops (masks ops.toList []) i k' = true) ∧ (allocAt ops i = true → i < k' → ordered (masks ops.toList []) i k' = true)) := fun k' hk' hg hf => by
    have := List.all_eq_true.1 hck k' (List.mem_range.2 hk')
    simp only [hg, hf, Bool.not_true, Bool.false_or, Bool.or_eq_true, Bool.and_eq_true, List.all_eq_true, List.mem_range] at this
    rcases this with this | this
    · refine .inl ⟨this.1, fun i hi h1 h2 h3 => ?_⟩
      have := this.2 i hi
      simpa [h1, h2, h3] using this
    · refine .inr ⟨this.1, fun i hi => ⟨fun h1 h2 h3 => ?_, fun h1 h2 => ?_⟩⟩
      · have := (this.2 i hi).1
        simpa [h1, h2, h3] using this
      · have h3 := (this.2 i hi).2
        have b : Nat.blt i k' = true := by rw [Nat.blt_eq]; exact h2
        simpa [h1, b] using h3
  have hcallsame : ∀ k', k' < ops.size → callAt ops k' = true → flagged ops (masks ops.toList []) k' = true → ∀ id, (Hs (k' + 1)).get id = (Hs k').get id := fun k' hk' hcf hf id => by
    obtain ⟨o, ho⟩ := hops k' hk'
    obtain ⟨s, hsi, hst, e1, e2, e3, e4⟩ := hat k' o ho
    simp only [callAt, ho] at hcf
    rw [e2]
    rcases hst.run with ⟨_, _, _, h3, _⟩ | ⟨_, _, _, h4⟩
    · exact h3 hf hcf id
    · rw [h4]
  have hsame : ∀ j, j < ops.size → allocAt ops j = false → (sgenAt ops j = false ∨ (flagged ops (masks ops.toList []) j = true ∧ callAt ops j = true)) → ∀ id, (Hs (j + 1)).get id = (Hs j).get id := fun j hj hna hg id => by
    obtain ⟨o, ho⟩ := hops j hj
    obtain ⟨s, hsi, hst, e1, e2, e3, e4⟩ := hat j o ho
    rcases hst.run with ⟨_, hcl, hsyn, _⟩ | ⟨_, _, _, h4⟩
    · cases hsc : s.c with
      | pure => rw [hsc] at hcl; rw [e2, hcl.1]
      | load => rw [hsc] at hcl; rw [e2, hcl.1]
      | alloc b =>
        have := hsyn.alloc b hsc
        simp only [allocAt, ho] at hna
        rw [this] at hna; cases hna
      | gen =>
        have hsg : sgenAt ops j = true := hgen j hj (by rw [e4, hsc]; rfl)
        rcases hg with hg | hg
        · rw [hg] at hsg; cases hsg
        · exact hcallsame j hj hg.2 hg.1 id
    · rw [e2, h4]
  have F : Facts P n ops As Hs vs cls := by
    refine ⟨fun i o ho => ?_, fun i hi => ?_, fun i o ho => ?_, fun i o ho => ?_, drawOk_mono hgen hd⟩
    · obtain ⟨s, hsi, hst, e1, e2, e3, e4⟩ := hat i o ho
      rw [e1, e3, hst.env]
    · obtain ⟨o, ho⟩ := hops i hi
      obtain ⟨s, hsi, hst, e1, e2, e3, e4⟩ := hat i o ho
      rw [e2]; exact hst.next
    · obtain ⟨s, hsi, hst, e1, e2, e3, e4⟩ := hat i o ho
      exact hst.ok
    · obtain ⟨s, hsi, hst, e1, e2, e3, e4⟩ := hat i o ho
      have hi : i < ops.size := (Array.getElem?_eq_some_iff.1 ho).1
      unfold StepOk
      rw [e1, e2, e3, e4]
      rcases hst.run with ⟨hw, hcl, hsyn, hf1, hf2, _⟩ | ⟨hw, hc0, hv0, hH0⟩
      · right
        refine ⟨hw, ?_⟩
        cases hsc : s.c with
        | pure => rw [hsc] at hcl; exact hcl
        | gen => rw [hsc] at hcl; exact hcl
        | alloc b =>
          rw [hsc] at hcl
          refine ⟨hcl.1, hcl.2, fun k' hk1 hik hgk ho' => ?_⟩
          have hsg := hgen k' hk1 hgk
          have hal : allocAt ops i = true := by simp only [allocAt, ho]; exact hsyn.alloc b hsc
          have hfl : flagged ops (masks ops.toList []) k' = true := by
            unfold flagged
            simp only [hsg, Bool.true_and, Bool.or_eq_true]
            left
            rw [List.any_eq_true]
            exact ⟨i, List.mem_range.2 hi, by simp [hal, hik, ho']⟩
          rcases hchk k' hk1 hsg hfl with hch | hch
          · rw [hcallsame k' hk1 hch.1 hfl]
          · rw [(hch.2 i hi).2 hal hik] at ho'; cases ho'
        | load =>
          rw [hsc] at hcl
          obtain ⟨h1, tt, x, a, hop, ex, hl'⟩ := hcl
          refine ⟨h1, tt, x, a, hop, ex, hl', fun k' hk1 hgk o1 o2 => ?_⟩
          have hsg := hgen k' hk1 hgk
          have hld : ldAt ops i = true := by simp only [ldAt, ho]; exact hsyn.load hsc
          have hfl : flagged ops (masks ops.toList []) k' = true := by
            unfold flagged
            simp only [hsg, Bool.true_and, Bool.or_eq_true]
            left
            rw [List.any_eq_true]
            exact ⟨i, List.mem_range.2 hi, by simp [hld, o1, o2]⟩
          have hfi : flagged ops (masks ops.toList []) i = true := by
            unfold flagged
            simp only [Bool.or_eq_true]
            right
            simp only [hld, Bool.true_and]
            rw [List.any_eq_true]
            exact ⟨k', List.mem_range.2 hk1, by simp [hsg, o1, o2]⟩
          have hload : o.op = .load tt x := hop
          have hbel : belowV s.H.next 6 s.v = true := hf2 hfi (by unfold isLd; rw [hload])
          rcases hchk k' hk1 hsg hfl with hch | hch
          · have hq := hch.2 i hi hld o1 o2
            have hksame := hcallsame k' hk1 hch.1 hfl
            have hbetween : ∀ j, Nat.min i k' < j → j < Nat.max i k' → ∀ id, (Hs (j + 1)).get id = (Hs j).get id := fun j hj1 hj2 => by
              have hjs : j < ops.size := by
                have : Nat.max i k' < ops.size := by rcases Nat.le_total i k' with h | h <;> simp [Nat.max_def] <;> split <;> omega
                omega
              have := List.all_eq_true.1 hq j (List.mem_range.2 hjs)
              have b1 : Nat.blt (Nat.min i k') j = true := by simpa using hj1
              have b2 : Nat.blt j (Nat.max i k') = true := by simpa using hj2
              simp only [b1, b2, Bool.and_self, Bool.not_true, Bool.false_or, Bool.and_eq_true, Bool.not_eq_true', Bool.or_eq_true] at this
              exact hsame j hjs this.1 this.2
            have hik : ∀ id, (Hs k').get id = (Hs i).get id := by
              rcases Nat.lt_trichotomy i k' with hlt | heq | hgt
              · have e5 : Hs (i + 1) = Hs i := by rw [e2]; exact h1
                have e6 : ∀ id, (Hs k').get id = (Hs (i + 1)).get id := heaps_same hlt (fun j hj1 hj2 => hbetween j (by simp [Nat.min_def]; split <;> omega) (by simp [Nat.max_def]; split <;> omega))
                rw [e5] at e6; exact e6
              · subst heq
                exact fun _ => rfl
              · have e6 : ∀ id, (Hs i).get id = (Hs (k' + 1)).get id := heaps_same hgt (fun j hj1 hj2 => hbetween j (by simp [Nat.min_def]; split <;> omega) (by simp [Nat.max_def]; split <;> omega))
                exact fun id => by rw [e6, hksame]
            exact ⟨by rw [aload_get hik, e2]; exact hl', by rw [aload_get hksame, aload_get hik, e2]; exact hl', hbel⟩
          · have hcalm := (hch.2 i hi).1 hld o1 o2
            unfold calm at hcalm
            simp only [Bool.and_eq_true, List.all_eq_true, List.mem_range] at hcalm
            obtain ⟨⟨hlt, hsm⟩, hall⟩ := hcalm
            have hlt : i < k' := by simpa using hlt
            obtain ⟨tm, htm⟩ := Option.isSome_iff_exists.1 hsm
            have hx : x = .tmp tm := by
              unfold ldTmp at htm
              rw [ho] at htm
              simp only [hload] at htm
              split at htm
              · rename_i hh; cases hh; cases htm; rfl
              · cases htm
            subst hx
            have hstep : ∀ j, i ≤ j → j < ops.size → As j tm = .pointer (some a) → (sgenAt ops j = false ∨ (callAt ops j = true ∧ flagged ops (masks ops.toList []) j = true) ∨ (i < j ∧ stAt ops j = true ∧ flagged ops (masks ops.toList []) j = true ∧ unord (masks ops.toList []) i j = true)) → a.block < (Hs j).next → (Hs (j + 1)).get a.block = (Hs j).get a.block := fun j hij hj hA hg hbl => by
              obtain ⟨oj, hoj⟩ := hops j hj
              obtain ⟨sj, hsj, hstj, f1, f2, f3, f4⟩ := hat j oj hoj
              rw [f2] at hbl ⊢
              rcases hstj.run with ⟨_, hcl, hsyn, _, _, hsep⟩ | ⟨_, _, _, h4⟩
              · cases hsc : sj.c with
                | pure => rw [hsc] at hcl; rw [hcl.1]
                | load => rw [hsc] at hcl; rw [hcl.1]
                | alloc b => rw [hsc] at hcl; rw [hcl.1, Heap.get_push, if_neg (by omega)]
                | gen =>
                  have hsg : sgenAt ops j = true := hgen j hj (by rw [f4, hsc]; rfl)
                  rcases hg with hg | hg | ⟨hij2, hg1, hg2, hg3⟩
                  · rw [hg] at hsg; cases hsg
                  · rw [← f2]; exact hcallsame j hj hg.1 hg.2 _
                  · simp only [stAt, hoj] at hg1
                    obtain ⟨a', hk1', hk2'⟩ := hsep hg2 hg1
                    obtain ⟨b, hb1, hb2⟩ := hk2' (.tmp tm) (by
                      unfold others
                      rw [List.mem_filterMap]
                      exact ⟨i, List.mem_range.2 hij2, by simp [hld, hg3, htm]⟩)
                    have hb1 : sj.t tm = .pointer (some b) := hb1
                    rw [← f1, hA] at hb1
                    cases hb1
                    exact hk1' _ hb2
              · rw [h4]
            have hb0 : a.block < (Hs i).next := by
              rw [e2]
              unfold aload at hl'
              split at hl'
              · rename_i hg; exact hst.wf.lt hg
              · cases hl'
            have hA0 : As i tm = .pointer (some a) := by rw [e1]; exact ex
            have hall2 : ∀ j, i ≤ j → j < k' → (∀ oj, ops[j]? = some oj → oj.dst ≠ some tm) ∧ (sgenAt ops j = false ∨ (callAt ops j = true ∧ flagged ops (masks ops.toList []) j = true) ∨ (i < j ∧ stAt ops j = true ∧ flagged ops (masks ops.toList []) j = true ∧ unord (masks ops.toList []) i j = true)) := fun j hij hjk => by
              have := hall j hjk
              have b1 : Nat.blt j i = false := by
                cases hb : Nat.blt j i with
                | false => rfl
                | true => rw [Nat.blt_eq] at hb; omega
              simp only [b1, Bool.or_eq_true, Bool.and_eq_true, htm, Bool.not_eq_true', Bool.false_eq_true, false_or] at this
              refine ⟨fun oj hoj hd => ?_, ?_⟩
              · have h9 := this.1
                rw [hoj] at h9
                simp [hd] at h9
              · rcases this.2 with (h | h) | h
                · exact .inl h
                · exact .inr (.inl h)
                · refine .inr (.inr ⟨?_, h.1.1, h.1.2, h.2⟩)
                  rcases Nat.lt_or_ge i j with h' | h'
                  · exact h'
                  · have e : j = i := by omega
                    subst e
                    have h7 := h.1.1
                    unfold stAt isSt at h7
                    rw [ho] at h7
                    simp only [hload] at h7
                    cases h7
            have hrun : ∀ d, i + d ≤ k' → As (i + d) tm = .pointer (some a) ∧ (Hs (i + d)).get a.block = (Hs i).get a.block ∧ a.block < (Hs (i + d)).next := by
              intro d
              induction d with
              | zero => exact fun _ => ⟨hA0, rfl, hb0⟩
              | succ d ih =>
                intro hd
                obtain ⟨i1, i2, i3⟩ := ih (by omega)
                have hj : i + d < ops.size := by omega
                obtain ⟨oj, hoj⟩ := hops (i + d) hj
                obtain ⟨sj, hsj, hstj, f1, f2, f3, f4⟩ := hat (i + d) oj hoj
                obtain ⟨g1, g2⟩ := hall2 (i + d) (by omega) (by omega)
                refine ⟨?_, ?_, ?_⟩
                · rw [show i + (d + 1) = i + d + 1 by omega, hstj.env, ← f1, ← i1]
                  cases hdst : oj.dst with
                  | none => rfl
                  | some q => exact upd_ne _ _ (fun h => g1 oj hoj (by rw [hdst, h]))
                · rw [show i + (d + 1) = i + d + 1 by omega, hstep (i + d) (by omega) hj i1 g2 i3, i2]
                · rw [show i + (d + 1) = i + d + 1 by omega]
                  have := hstj.next
                  rw [← f2] at this
                  omega
            obtain ⟨r1, r2, r3⟩ := hrun (k' - i) (by omega)
            rw [show i + (k' - i) = k' by omega] at r1 r2 r3
            have hlast := hstep k' (by omega) hk1 r1 (.inr (.inr ⟨hlt, hch.1, hfl, by unfold unord; rw [o1, o2]; rfl⟩)) r3
            exact ⟨by rw [aload_get1 r2, e2]; exact hl', by rw [aload_get1 hlast, aload_get1 r2, e2]; exact hl', hbel⟩
      · left
        exact ⟨hw, hv0, hH0, hc0⟩
  have hend : As ops.size = A1 ∧ Hs ops.size = H1 := by
    have : tr[ops.size]? = none := List.getElem?_eq_none (by omega)
    simp only [As, Hs, envAt, heapAt, this, and_self]
  have hAs0 : As 0 = A := hA
  have hHs0 : Hs 0 = H := hH
  have := awp_draw (id := id) (Q := fun e A' H' => e = .normal ∧ A' = A1 ∧ H' = H1) hm F ⟨rfl, hend.1, hend.2⟩
  rwa [hAs0, hHs0] at this

/-- How a run of code may end. -/
def Fp (ks : Kp) (k : Env → Heap → Prop) : Ex → Env → Heap → Prop
  | .normal, A, H => k A H
  | .ret, A, H => ks.ret A H
  | .exit j, A, H => ks.ext j A H
  | _, _, _ => False

/-- It ends just so. -/
def Just (ex : Ex) (A1 : Env) (H1 : Heap) : Ex → Env → Heap → Prop := fun e A H => e = ex ∧ A = A1 ∧ H = H1

theorem pexec_sound : ∀ (c : Code) (pc : PC) (ks : Kp) (k : Env → Heap → Prop) (A : Env) (H : Heap), H.Wf → comp P n c = some pc → pexec P pc ks k A H →
    ∃ ex A1 H1, H1.Wf ∧ Fp ks k ex A1 H1 ∧ AWp P n c (Just ex A1 H1) A H := by
  intro c
  induction c with
  | skip => intro pc ks k A H hwf hc h; cases hc; exact ⟨.normal, A, H, hwf, h, awp_skip ⟨rfl, rfl, rfl⟩⟩
  | label l => intro pc ks k A H hwf hc h; cases hc; exact ⟨.normal, A, H, hwf, h, awp_label ⟨rfl, rfl, rfl⟩⟩
  | ret => intro pc ks k A H hwf hc h; cases hc; exact ⟨.ret, A, H, hwf, h, awp_ret ⟨rfl, rfl, rfl⟩⟩
  | exit id => intro pc ks k A H hwf hc h; cases hc; exact ⟨.exit id, A, H, hwf, h, awp_exit ⟨rfl, rfl, rfl⟩⟩
  | goto l => intro pc ks k A H hwf hc h; cases hc
  | refuse s => intro pc ks k A H hwf hc h; cases hc
  | rangeFunc f p a b iha ihb => intro pc ks k A H hwf hc h; cases hc
  | region id ops draw =>
    intro pc ks k A H hwf hc h
    cases draw with
    | false =>
      simp only [comp, Option.map_eq_some_iff] at hc
      obtain ⟨pl, hpl, rfl⟩ := hc
      obtain ⟨A1, H1, hw1, hk, ha⟩ := pops_sound ops.toList 0 pl k A H hwf hpl h
      exact ⟨.normal, A1, H1, hw1, hk, (by
        have hw : AWp P n (.region id ops.toList.toArray false) (Just .normal A1 H1) A H := awp_region (l := ops.toList) (by
          have ha : AOps P n ops ops.toList (Just .normal A1 H1) A H := ha
          simpa using ha)
        simpa using hw)⟩
    | true =>
      simp only [comp] at hc
      split at hc
      · rename_i hcond
        simp only [Bool.and_eq_true] at hcond
        simp only [Option.map_eq_some_iff] at hc
        obtain ⟨pl, hpl, rfl⟩ := hc
        obtain ⟨A1, H1, hw1, hk, ha⟩ := draw_sound (id := id) hwf hcond.1.1 hcond.1.2 hcond.2 hpl h
        exact ⟨.normal, A1, H1, hw1, hk, ha⟩
      · cases hc
  | seq a b iha ihb =>
    intro pc ks k A H hwf hc h
    have main : ∀ x y, comp P n a = some x → comp P n b = some y → pexec P x ks (pexec P y ks k) A H → ∃ ex A1 H1, H1.Wf ∧ Fp ks k ex A1 H1 ∧ AWp P n (.seq a b) (Just ex A1 H1) A H := fun x y hx hy h => by
      obtain ⟨ex, A1, H1, hw1, hf, ha⟩ := iha x ks _ A H hwf hx h
      cases ex with
      | normal =>
        obtain ⟨ex2, A2, H2, hw2, hf2, ha2⟩ := ihb y ks k A1 H1 hw1 hy hf
        refine ⟨ex2, A2, H2, hw2, hf2, awp_seq (ha.mono ?_)⟩
        rintro e A' H' ⟨rfl, rfl, rfl⟩
        exact ha2
      | ret => exact ⟨.ret, A1, H1, hw1, hf, awp_seq (ha.mono (by rintro e A' H' ⟨rfl, rfl, rfl⟩; exact ⟨rfl, rfl, rfl⟩))⟩
      | exit j => exact ⟨.exit j, A1, H1, hw1, hf, awp_seq (ha.mono (by rintro e A' H' ⟨rfl, rfl, rfl⟩; exact ⟨rfl, rfl, rfl⟩))⟩
      | goto j => exact hf.elim
      | panic v => exact hf.elim
    simp only [comp] at hc
    split at hc
    · rename_i y hx hy; cases hc; exact main _ _ hx hy h
    · rename_i x _ hx hy; cases hc; exact main _ _ hx hy (by
        have : pexec P PC.skip ks k = k := rfl
        rw [this]; exact h)
    · rename_i x y _ _ hx hy; cases hc; exact main _ _ hx hy h
    · cases hc
  | cond x a b iha ihb =>
    intro pc ks k A H hwf hc h
    simp only [comp] at hc
    split at hc
    · rename_i hok
      split at hc
      · rename_i pa pb ha hb
        cases hc
        simp only [pexec] at h
        split at h
        · rename_i t ht
          cases t with
          | true =>
            obtain ⟨ex, A1, H1, hw1, hf, hw⟩ := iha pa ks k A H hwf ha (h.1 rfl)
            exact ⟨ex, A1, H1, hw1, hf, awp_cond (t := true) hok ht hw⟩
          | false =>
            obtain ⟨ex, A1, H1, hw1, hf, hw⟩ := ihb pb ks k A H hwf hb (h.2 rfl)
            exact ⟨ex, A1, H1, hw1, hf, awp_cond (t := false) hok ht hw⟩
        · exact h.elim
      · cases hc
    · cases hc
  | block id b ih =>
    intro pc ks k A H hwf hc h
    simp only [comp, Option.map_eq_some_iff] at hc
    obtain ⟨pb, hb, rfl⟩ := hc
    obtain ⟨ex, A1, H1, hw1, hf, hw⟩ := ih pb _ k A H hwf hb h
    cases ex with
    | normal => exact ⟨.normal, A1, H1, hw1, hf, awp_block (hw.mono (by rintro e A' H' ⟨rfl, rfl, rfl⟩; exact ⟨rfl, rfl, rfl⟩))⟩
    | ret => exact ⟨.ret, A1, H1, hw1, hf, awp_block (hw.mono (by rintro e A' H' ⟨rfl, rfl, rfl⟩; exact ⟨rfl, rfl, rfl⟩))⟩
    | exit j =>
      simp only [Fp] at hf
      by_cases hj : j = id
      · rw [if_pos hj] at hf
        exact ⟨.normal, A1, H1, hw1, hf, awp_block (hw.mono (by rintro e A' H' ⟨rfl, rfl, rfl⟩; simp only [InBlock, if_pos hj]; exact ⟨rfl, rfl, rfl⟩))⟩
      · rw [if_neg hj] at hf
        exact ⟨.exit j, A1, H1, hw1, hf, awp_block (hw.mono (by rintro e A' H' ⟨rfl, rfl, rfl⟩; simp only [InBlock, if_neg hj]; exact ⟨rfl, rfl, rfl⟩))⟩
    | goto j => exact hf.elim
    | panic v => exact hf.elim
  | loop b ih =>
    intro pc ks k A H hwf hc h
    simp only [comp, Option.map_eq_some_iff] at hc
    obtain ⟨pb, hb, rfl⟩ := hc
    obtain ⟨I, ⟨m, hm⟩, hround⟩ := h
    have key : ∀ m A H, H.Wf → I m A H → ∃ ex A1 H1, H1.Wf ∧ Fp ks k ex A1 H1 ∧ LoopWp P n b (Just ex A1 H1) A H := by
      intro m
      induction m using Nat.strongRecOn with
      | _ m ihm =>
        intro A H hwf hI
        obtain ⟨ex, A1, H1, hw1, hf, hw⟩ := ih pb ks _ A H hwf hb (hround m A H hI)
        cases ex with
        | normal =>
          obtain ⟨m', hlt, hI'⟩ := hf
          obtain ⟨ex2, A2, H2, hw2, hf2, hl2⟩ := ihm m' hlt A1 H1 hw1 hI'
          exact ⟨ex2, A2, H2, hw2, hf2, loop_step (hw.mono (by rintro e A' H' ⟨rfl, rfl, rfl⟩; exact hl2))⟩
        | ret => exact ⟨.ret, A1, H1, hw1, hf, loop_step (hw.mono (by rintro e A' H' ⟨rfl, rfl, rfl⟩; exact ⟨rfl, rfl, rfl⟩))⟩
        | exit j => exact ⟨.exit j, A1, H1, hw1, hf, loop_step (hw.mono (by rintro e A' H' ⟨rfl, rfl, rfl⟩; exact ⟨rfl, rfl, rfl⟩))⟩
        | goto j => exact hf.elim
        | panic v => exact hf.elim
    obtain ⟨ex, A1, H1, hw1, hf, hw⟩ := key m A H hwf hm
    exact ⟨ex, A1, H1, hw1, hf, awp_of_loop hw⟩
  | scope b ih =>
    intro pc ks k A H hwf hc h
    obtain ⟨ex, A1, H1, hw1, hf, hw⟩ := ih pc ks k A H hwf hc h
    refine ⟨ex, A1, H1, hw1, hf, awp_of_scope (scope_step (hw.mono ?_))⟩
    rintro e A' H' ⟨rfl, rfl, rfl⟩
    cases e with
    | goto j => exact hf.elim
    | _ => exact ⟨rfl, rfl, rfl⟩

/-- What a body must reach. -/
def RetK (P : Program) (fn : Func) (k : Value → Heap → Prop) : Env → Heap → Prop := fun A H => ∃ v, ares P fn.ntmps fn.results A H = some v ∧ ∃ H2, Less H2 H ∧ (H.Wf → H2.Wf) ∧ k v H2

/-- A contract out of a body's run. -/
theorem callQ_of_pexec {f : FuncId} {fn : Func} {pc : PC} {args : List Value} {H : Heap} {k : Value → Heap → Prop} (hf : P.funcs[f]? = some fn) (hcb : fn.body.bind (comp P fn.ntmps) = some pc) (he : entered P f = true) (hl : args.length ≤ fn.ntmps)
    (h : H.Wf → pexec P pc ⟨RetK P fn fun v H' => H.next ≤ H'.next ∧ k v H', fun _ _ _ => False⟩ (RetK P fn fun v H' => H.next ≤ H'.next ∧ k v H') (envOf args) H) : CallQ P f args H k := by
  obtain ⟨c, hb, hc⟩ := Option.bind_eq_some_iff.1 hcb
  intro hwf
  obtain ⟨ex, A1, H1, hw1, hfp, hw⟩ := pexec_sound c pc _ _ (envOf args) H hwf hc (h hwf)
  have en : args.length + (fn.ntmps - args.length) = fn.ntmps := by omega
  have main : RetK P fn (fun v H' => H.next ≤ H'.next ∧ k v H') A1 H1 → (ex = .normal ∨ ex = .ret) → ∃ v H', Callable P f args H v H' ∧ H.next ≤ H'.next ∧ H'.Wf ∧ k v H' := fun ⟨v, hv, H2, hle, hw2, hn, hk⟩ hex => by
    refine ⟨v, H2, .inl ⟨he, does_of_wp hf hb ?_⟩, hn, hw2 hw1, hk⟩
    rw [en]
    refine hw.mono ?_
    rintro e A' H' ⟨rfl, rfl, rfl⟩
    rcases hex with rfl | rfl
    · exact ⟨v, rfl, hv, hle⟩
    · exact ⟨v, rfl, hv, hle⟩
  cases ex with
  | normal => exact main hfp (.inl rfl)
  | ret => exact main hfp (.inr rfl)
  | exit j => exact hfp.elim
  | goto j => exact hfp.elim
  | panic v => exact hfp.elim

theorem CallQ.mono {f : FuncId} {args : List Value} {H : Heap} {k k' : Value → Heap → Prop} (h : CallQ P f args H k) (hk : ∀ v H', k v H' → k' v H') : CallQ P f args H k' := by
  intro hw
  obtain ⟨v, H', h1, h2, h3, h4⟩ := h hw
  exact ⟨v, H', h1, h2, h3, hk v H' h4⟩

theorem CallQ.then {f : FuncId} {args : List Value} {H : Heap} {k k' : Value → Heap → Prop} (h : CallQ P f args H k) (hk : ∀ v H', H.next ≤ H'.next → k v H' → k' v H') : CallQ P f args H k' := by
  intro hw
  obtain ⟨v, H', h1, h2, h3, h4⟩ := h hw
  exact ⟨v, H', h1, h2, h3, hk v H' h2 h4⟩

/-- What a closed run gives. -/
theorem callQ_of_does {f : FuncId} {args : List Value} {H : Heap} {v : Value} (he : entered P f = true) (h : Does P f args H (.ret v) H) : CallQ P f args H fun u H' => u = v ∧ H' = H :=
  fun hw => ⟨v, H, .inl ⟨he, h⟩, Nat.le_refl _, hw, rfl, rfl⟩

/-- Ways that meet again. -/
theorem pexec_cut {a b : PC} {ks : Kp} {k : Env → Heap → Prop} {A : Env} {H : Heap} (R : Env → Heap → Prop) (ha : pexec P a ks R A H) (mono : ∀ (q q' : Env → Heap → Prop), (∀ A H, q A H → q' A H) → pexec P a ks q A H → pexec P a ks q' A H) (hb : ∀ A' H', R A' H' → pexec P b ks k A' H') : pexec P (.seq a b) ks k A H :=
  mono R _ hb ha
end
end Go.Ab
