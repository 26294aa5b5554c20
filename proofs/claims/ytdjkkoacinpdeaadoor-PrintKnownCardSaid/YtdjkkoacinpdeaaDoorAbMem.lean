/- Operations, abstractly: what each must give; new blocks, loads, stores. -/
import Derived.Test.YtdjkkoacinpdeaaDoorAbWp
set_option linter.unusedVariables false
namespace Go.Ab

/-- An operation's operands are alike. -/
noncomputable def OpRel (ρ : Ren) (o : Oper) (A : Env) (a : Act) : Prop := ∀ x ∈ o.op.operands, V ρ (ev A x) (a.eval x)

section
variable (P : Program) (n : Nat)

/-- What can be asked of an operation's slots by its text. -/
noncomputable def okOp (o : Oper) : Bool := dstOk n o.dst && o.op.operands.all (okArg P n)

/-- An operation gives a value, and leaves such a heap. -/
noncomputable def OpDoes (o : Oper) (A : Env) (H : Heap) (v : Value) (H' : Heap) : Prop :=
  ∀ ρ w a, Sim P ρ H w → OpRel ρ o A a → ∀ (K : Act → World → Prop) (Q : Exit → Act → World → Prop),
    (∀ v' ρ' w', V ρ' v v' → St ρ H w ρ' H' w' → Sim P ρ' H' w' → K (a.put o.dst v') w') → ∀ z, o.wpIn (fen z) 0 P a w K Q

/-- The rest of a region. -/
noncomputable def AOps (ops : Array Oper) (l : List Oper) (Q : Ex → Env → Heap → Prop) (A : Env) (H : Heap) : Prop :=
  ∀ z ρ w a, Sim P ρ H w → EnvFr z ρ H w n A a → wpListIn (fen z) 0 P ops (Lift P n z ρ H w Q) l a w
end

/-- What the model does at an operation that does not defer is the same in all rounds. -/
theorem semAt_of {P : Program} {o : Oper} {a : Act} {w w' : World} {x : Next} (h : (execOp a.eval o).run P w = .ok x w') (hd : ∀ d, x ≠ .defer d) (r : Option Nat) : (o.semAt r a.eval).run P w = .ok x w' := by
  by_cases hop : ∀ c, o.op ≠ .defer c
  · rw [Oper.semAt_eq _ _ _ hop]; exact h
  · exfalso
    obtain ⟨c, hc⟩ := Classical.not_forall.1 hop
    have hc : o.op = .defer c := Classical.not_not.1 hc
    simp only [execOp, hc, Sem.run_bind] at h
    cases hr : (resolve a.eval c o.type).run P w with
    | ok d w1 =>
      rw [hr] at h
      simp only [Result.andThen_ok, Sem.run_pure, Result.ok.injEq] at h
      exact hd d h.1.symm
    | halt y w1 => rw [hr] at h; simp [Result.andThen] at h

section
variable {P : Program} {n : Nat} {Q : Ex → Env → Heap → Prop} {A : Env} {H : Heap}

theorem OpDoes.of_run {o : Oper} {v : Value} {H' : Heap}
    (h : ∀ ρ w a, Sim P ρ H w → OpRel ρ o A a → ∃ v' ρ' w', (execOp a.eval o).run P w = .ok (.value v') w' ∧ V ρ' v v' ∧ St ρ H w ρ' H' w' ∧ Sim P ρ' H' w') : OpDoes P o A H v H' := by
  intro ρ w a hs he K Q hk
  obtain ⟨v', ρ', w', hr, hv, hst, hs'⟩ := h ρ w a hs he
  intro z
  refine ⟨fun _ _ => trivial, ?_⟩
  rw [semAt_of hr (by simp) _]
  exact hk v' ρ' w' hv hst hs'

theorem OpDoes.of_skip {o : Oper} {H' : Heap}
    (h : ∀ ρ w a, Sim P ρ H w → OpRel ρ o A a → ∃ ρ' w', (execOp a.eval o).run P w = .ok .skip w' ∧ St ρ H w ρ' H' w' ∧ Sim P ρ' H' w') : OpDoes P o A H undef H' := by
  intro ρ w a hs he K Q hk
  obtain ⟨ρ', w', hr, hst, hs'⟩ := h ρ w a hs he
  intro z
  refine ⟨fun _ _ => trivial, ?_⟩
  rw [semAt_of hr (by simp) _]
  exact hk undef ρ' w' (.closed (by simp [undef, closedV])) hst hs'

/-- An operation that touches no memory. -/
theorem OpDoes.pure_ {o : Oper} {v : Value}
    (h : ∀ ρ w a, Sim P ρ H w → OpRel ρ o A a → ∃ v', (execOp a.eval o).run P w = .ok (.value v') w ∧ V ρ v v') : OpDoes P o A H v H :=
  .of_run fun ρ w a hs he => by
    obtain ⟨v', hr, hv⟩ := h ρ w a hs he
    exact ⟨v', ρ, w, hr, hv, .refl _ _ _, hs⟩

theorem EnvRel.op {ρ : Ren} {w : World} {a : Act} (hs : Sim P ρ H w) (he : EnvRel ρ n A a) {o : Oper} (ho : okOp P n o = true) : OpRel ρ o A a := fun x hx => by
  simp only [okOp, Bool.and_eq_true] at ho
  exact he.eval hs (Array.all_eq_true_iff_forall_mem.1 ho.2 x hx)

theorem okOp_dst {o : Oper} (ho : okOp P n o = true) : dstOk n o.dst = true := by simp only [okOp, Bool.and_eq_true] at ho; exact ho.1

theorem aops_nil {ops : Array Oper} (h : Q .normal A H) : AOps P n ops [] Q A H :=
  fun z ρ w a hs he => ⟨.normal, ρ, A, H, h, .refl _ _ _, hs, he, trivial⟩

theorem uponIn_mono {z : Rd} {o : Oper} {a : Act} {K K' : Act → World → Prop} {Q1 Q2 : Exit → Act → World → Prop} (hk : ∀ a w, K a w → K' a w) (hq : ∀ e a w, Q1 e a w → Q2 e a w) {r : Result Next}
    (h : o.uponIn (fen z) 0 P a K Q1 r) : o.uponIn (fen z) 0 P a K' Q2 r := by
  cases r with
  | ok nx w1 =>
    cases nx <;> simp only [Oper.uponIn] at h ⊢ <;> first
      | exact hk _ _ h
      | exact ⟨h.1, CallsIn.mono h.2 (fun e w2 he => by
          cases e with
          | returned v => exact hk _ _ he
          | panicked ch => exact hq _ _ _ he
          | outgrown => obtain ⟨a0, w0, hh⟩ := he; exact ⟨a0, w0, hq _ _ _ hh⟩)⟩
      | exact ⟨h.1, RowsIn.mono h.2 (fun v w2 he => hk _ _ he)⟩
      | exact ⟨h.1, RoundIn.mono h.2 (fun e w2 he => by
          cases e with
          | returned v => exact hk _ _ he
          | panicked ch => exact hq _ _ _ he
          | outgrown => obtain ⟨a0, w0, hh⟩ := he; exact ⟨a0, w0, hq _ _ _ hh⟩)⟩
  | halt x w1 => cases x <;> simp only [Oper.uponIn] at h ⊢ <;> exact hq _ _ _ h

theorem wpList_mono_post {z : Rd} {ops : Array Oper} {Q1 Q2 : Exit → Act → World → Prop} (hq : ∀ e a w, Q1 e a w → Q2 e a w) : ∀ (l : List Oper) (a : Act) (w : World), wpListIn (fen z) 0 P ops Q1 l a w → wpListIn (fen z) 0 P ops Q2 l a w
  | [], a, w, h => hq _ _ _ h
  | o :: rest, a, w, h => by
    unfold wpListIn at h ⊢
    split at h
    · rename_i hw
      rw [if_pos hw]
      exact ⟨h.1, uponIn_mono (wpList_mono_post hq rest) hq h.2⟩
    · rename_i hw
      rw [if_neg hw]
      exact ⟨h.1, wpList_mono_post hq rest _ _ h.2⟩

theorem wpList_lift {z : Rd} {ops : Array Oper} {rest : List Oper} {ρ ρ' : Ren} {H H' : Heap} {w w' : World} {a : Act} {w0 : World} (hst : St ρ H w ρ' H' w')
    (h : wpListIn (fen z) 0 P ops (Lift P n z ρ' H' w' Q) rest a w0) : wpListIn (fen z) 0 P ops (Lift P n z ρ H w Q) rest a w0 :=
  wpList_mono_post (fun e a' w1 hl => Lift.weaken hst hl) rest a w0 h

theorem aops_cons {ops : Array Oper} {o : Oper} {rest : List Oper} {v : Value} {H' : Heap} (hg : o.guard = none) (ho : OpDoes P o A H v H') (hd : okOp P n o = true)
    (h : AOps P n ops rest Q (updO A o.dst v) H') : AOps P n ops (o :: rest) Q A H := by
  intro z ρ w a hs he
  refine wpListIn_plain hg fun K hK => ?_
  refine ho ρ w a hs (he.op hs hd) K _ (fun v' ρ' w' hv hst hs' => ?_) z
  have := h z ρ' w' (a.put o.dst v') hs' ((he.step hst).putO (okOp_dst hd) hv)
  exact hK _ _ (wpList_lift hst this)

/-- Whether a guarded operation runs: the slot of the operation that guards it. -/
noncomputable def guardSlot (ops : Array Oper) (j : Nat) : Option Nat := (ops[j]?).bind (·.dst)

theorem aops_guard {ops : Array Oper} {o : Oper} {rest : List Oper} {j t : Nat} {want b : Bool} (hg : o.guard = some (j, want)) (hj : guardSlot ops j = some t) (ht : Nat.blt t n = true) (hb : A t = .bool b)
    (hyes : b = want → ∃ v H', OpDoes P o A H v H' ∧ AOps P n ops rest Q (updO A o.dst v) H') (hno : b ≠ want → AOps P n ops rest Q (updO A o.dst undef) H) (hd : okOp P n o = true) : AOps P n ops (o :: rest) Q A H := by
  intro z ρ w a hs he
  have hv := he.tmps t (by simpa using ht)
  rw [hb] at hv
  have hlt : t < a.tmps.size := by rw [he.size]; simpa using ht
  have hcb : a.tmps[t]? = some (.bool b) := by
    rw [Array.getD_eq_getD_getElem?, Array.getElem?_eq_getElem hlt] at hv
    rw [Array.getElem?_eq_getElem hlt]
    simp only [Option.getD_some] at hv
    generalize a.tmps[t] = z at hv
    cases hv with
    | same _ _ => rfl
  have hy : yielded ops a.tmps j = some b := by
    unfold yielded
    unfold guardSlot at hj
    rw [hj]
    simp [hcb]
  by_cases e : b = want
  · obtain ⟨v, H', ho, h⟩ := hyes e
    refine wpListIn_step fun K hK => ?_
    have hw : Region.wanted o (yielded ops a.tmps) = true := by simp [Region.wanted, hg, hy, e]
    rw [if_pos hw]
    refine ho ρ w a hs (he.op hs hd) K _ (fun v' ρ' w' hv hst hs' => ?_) z
    have := h z ρ' w' (a.put o.dst v') hs' ((he.step hst).putO (okOp_dst hd) hv)
    exact hK _ _ (wpList_lift hst this)
  · refine wpListIn_step fun K hK => ?_
    have hw : Region.wanted o (yielded ops a.tmps) = false := by simp [Region.wanted, hg, hy, e]
    rw [if_neg (by rw [hw]; simp)]
    exact ⟨fun _ _ => trivial, hK _ _ (hno e z ρ w _ hs (he.putO (okOp_dst hd) (.closed (by simp [undef, closedV]))))⟩

theorem awp_region {id : Nat} {l : List Oper} (h : AOps P n l.toArray l Q A H) : AWp P n (.region id l.toArray false) Q A H :=
  fun z ρ w a hs he => wpIn_region_lit (h z ρ w a hs he)

/-! ### New blocks -/

noncomputable def ext (ρ : Ren) (id : Nat) (i : Info) : Ren := fun x => if x = id then some i else ρ x
theorem ext_same (ρ : Ren) (id : Nat) (i : Info) : ext ρ id i id = some i := by simp [ext]
theorem ext_ne (ρ : Ren) {id x : Nat} (i : Info) (h : x ≠ id) : ext ρ id i x = ρ x := by simp [ext, h]
theorem sub_ext {ρ : Ren} {id : Nat} (i : Info) (h : ρ id = none) : Sub ρ (ext ρ id i) := fun x j hx => by
  by_cases e : x = id
  · subst e; rw [h] at hx; cases hx
  · rw [ext_ne ρ i e]; exact hx

theorem Sim.none_next {ρ : Ren} {w : World} (hs : Sim P ρ H w) : ρ H.next = none := by
  cases h : ρ H.next with
  | none => rfl
  | some i => have := hs.dom _ _ h; omega

theorem alloc_heap_old (w : World) (o : Obj) {b : Nat} (h : b < w.heap.size) : (w.alloc o).heap[b]? = w.heap[b]? := by
  simp only [World.alloc, Array.getElem?_push]
  rw [if_neg (by omega)]

/-- A new block: the world has it at its end. -/
theorem Sim.push {ρ : Ren} {w : World} (hs : Sim P ρ H w) (o : Obj) (b : Blk) (i : Info) (hi : i.at_.block = w.heap.size)
    (hb : BlkRel P (ext ρ H.next i) i (w.alloc o) b) : St ρ H w (ext ρ H.next i) (H.push b) (w.alloc o) ∧ Sim P (ext ρ H.next i) (H.push b) (w.alloc o) := by
  have hn := hs.none_next
  have hsub := sub_ext i hn
  have hlt : ∀ id j, ρ id = some j → id ≠ H.next := fun id j h e => by rw [e, hn] at h; cases h
  refine ⟨⟨hsub, by simp, fun id j h h' => ?_, fun id j b1 b' h h1 h2 h3 => ?_, fun id j h h' => ?_, rfl, rfl, rfl, by simp, fun bk hbk _ => alloc_heap_old w o hbk⟩, ⟨fun id j h => ?_, fun id bl j h h' => ?_, fun id1 id2 b1 b2 i1 i2 h1 h2 h3 h4 h5 h6 => ?_, fun g hg => ?_⟩⟩
  · rw [Heap.get_push, if_neg (hlt id j h)]; exact h'
  · rw [Heap.get_push, if_neg (hlt id j h), h1] at h3; cases h3; exact h2
  · by_cases e : id = H.next
    · subst e; rw [ext_same] at h; cases h; exact ⟨Nat.le_refl _, .inl (by rw [hi]; exact Nat.le_refl _)⟩
    · rw [ext_ne ρ i e, h'] at h; cases h
  · by_cases e : id = H.next
    · subst e; simp
    · rw [ext_ne ρ i e] at h; have := hs.dom _ _ h; simp; omega
  · by_cases e : id = H.next
    · subst e; rw [ext_same] at h'; cases h'; rw [Heap.get_push, if_pos rfl] at h; cases h; exact hb
    · rw [ext_ne ρ i e] at h'; rw [Heap.get_push, if_neg e] at h
      have hr := hs.live id bl j h h'
      exact hr.mono hsub (alloc_heap_old w o hr.lt)
  · by_cases e1 : id1 = H.next
    · by_cases e2 : id2 = H.next
      · exact absurd (e1.trans e2.symm) h6
      · rw [ext_ne ρ i e2] at h4; rw [Heap.get_push, if_neg e2] at h2
        subst e1; rw [ext_same] at h3; cases h3
        have := (hs.live id2 b2 i2 h2 h4).lt
        omega
    · rw [ext_ne ρ i e1] at h3; rw [Heap.get_push, if_neg e1] at h1
      by_cases e2 : id2 = H.next
      · subst e2; rw [ext_same] at h4; cases h4
        have := (hs.live id1 b1 i1 h1 h3).lt
        omega
      · rw [ext_ne ρ i e2] at h4; rw [Heap.get_push, if_neg e2] at h2
        exact hs.sep id1 id2 b1 b2 i1 i2 h1 h2 h3 h4 h5 h6
  · obtain ⟨j, hj, e⟩ := hs.glob g hg
    exact ⟨j, hsub _ _ hj, e⟩

/-- Cells of a new block. -/
theorem BlkRel.new {ρ : Ren} {w : World} {c : List Value} {c' : Array Value} {e : TypeId} (hc : VL ρ c c'.toList) :
    BlkRel P ρ ⟨⟨w.heap.size, 0, none⟩, c.length, P.cellsOf e⟩ (w.alloc (.cells c' e)) (.cells c e false) := by
  have hl := hc.1
  refine ⟨c', (0, 0), heap_alloc_new w _, ⟨rfl, rfl⟩, by simpa using hl, Nat.le_refl _, fun j v hj => ?_, fun o _ _ => by simp, fun o v h1 h2 => ?_, rfl⟩
  · obtain ⟨v', h1, h2⟩ := hc.get hj
    exact ⟨v', by simpa using h1, h2⟩
  · have := (Array.getElem?_eq_some_iff.1 h2).1
    simp at h1 hl
    omega

theorem Sim.pushCells {ρ : Ren} {w : World} (hs : Sim P ρ H w) {c : List Value} {c' : Array Value} (e : TypeId) (hc : VL ρ c c'.toList) :
    let i : Info := ⟨⟨w.heap.size, 0, none⟩, c.length, P.cellsOf e⟩
    St ρ H w (ext ρ H.next i) (H.push (.cells c e false)) (w.alloc (.cells c' e)) ∧ Sim P (ext ρ H.next i) (H.push (.cells c e false)) (w.alloc (.cells c' e)) :=
  hs.push _ _ _ rfl (BlkRel.new (hc.mono (sub_ext _ hs.none_next)))

theorem V.cells {ρ : Ren} {v v' : Value} (h : V ρ v v') : VL ρ v.cells.toList v'.cells.toList := by
  have one : ∀ {x x' : Value}, V ρ x x' → VL ρ [x] [x'] := fun h => .cons h (.nil ρ)
  cases h with
  | same v hp => cases v <;> simp [plain] at hp <;> exact one (.same _ (by simp [plain, *]))
  | agg xs xs' h1 h2 => exact ⟨by simpa [Value.cells] using h1, fun j x x' e e' => h2 j x x' (by simpa [Value.cells] using e) (by simpa [Value.cells] using e')⟩
  | ptr id off i h => exact one (.ptr id off i h)
  | slice id off len cap cap' i a' h h1 h2 h0 h3 h4 => exact one (.slice id off len cap cap' i a' h h1 h2 h0 h3 h4)
  | map id i h => exact one (.map id i h)
  | func fn xs ys xs' ys' hn h1 h2 h3 h4 => exact one (.func fn xs ys xs' ys' hn h1 h2 h3 h4)
  | yield l i h => exact one (.yield l i h)
  | iface t v v' h => exact one (.iface t v v' h)
  | tuple xs xs' h1 h2 => exact one (.tuple xs xs' h1 h2)

theorem V.oneCell {ρ : Ren} {v v' : Value} (h : V ρ v v') : v'.oneCell' = v.oneCell' := by cases h <;> rfl

theorem VL.closed {ρ : Ren} {l : List Value} (h : l.all plain = true) : VL ρ l l :=
  ⟨rfl, fun j x x' a b => by rw [a] at b; cases b; exact .same x (List.all_eq_true.1 h x (List.mem_of_getElem? a))⟩

/-! ### Loads -/

noncomputable def isAggD : TypeDesc → Bool
  | .struct _ | .array _ _ => true
  | _ => false

/-- What a place of a type holds. -/
noncomputable def aload (P : Program) (t : TypeId) (a : Addr) (H : Heap) : Option Value :=
  match P.underlying t, P.info? t, H.get a.block with
  | some d, some inf, some (.cells c _ _) =>
    if isAggD d then (if a.off + inf.size ≤ c.length then some (.agg ((c.drop a.off).take inf.size).toArray) else none)
    else c[a.off]?
  | _, _, _ => none

theorem BlkRel.cellAt {ρ : Ren} {i : Info} {w : World} {c : List Value} {e : TypeId} {ro : Bool} (h : BlkRel P ρ i w (.cells c e ro)) {j : Nat} {v : Value} (hj : c[j]? = some v) :
    ∃ v', w.cell? (i.at_.add j) = some v' ∧ V ρ v v' := by
  cases ro with
  | true => exact h.2 j v hj
  | false =>
    obtain ⟨cur, fz, hh, h1, h2, h3, h4, _⟩ := h
    obtain ⟨v', ha, hv⟩ := h4 j v hj
    refine ⟨v', ?_, hv⟩
    rw [add_none h1.1, cell_of_row w _ _ cur e fz hh]
    exact ha

theorem BlkRel.cellsAt {ρ : Ren} {i : Info} {w : World} {c : List Value} {e : TypeId} {ro : Bool} (h : BlkRel P ρ i w (.cells c e ro)) (off k : Nat) (hk : off + k ≤ c.length) :
    ∃ cs : List Value, cs.length = k ∧ VL ρ ((c.drop off).take k) cs ∧ (∀ (j : Nat) v, cs[j]? = some v → w.cell? ((i.at_.add off).add j) = some v) := by
  induction k generalizing off with
  | zero => exact ⟨[], rfl, by simpa using VL.nil ρ, fun j v h => by simp at h⟩
  | succ k ih =>
    have hlt : off < c.length := by omega
    obtain ⟨cs, hl, hvl, hc⟩ := ih (off + 1) (by omega)
    obtain ⟨v', h1, h2⟩ := h.cellAt (List.getElem?_eq_getElem hlt)
    refine ⟨v' :: cs, by simp [hl], ?_, fun j v hj => ?_⟩
    · rw [List.drop_eq_getElem_cons hlt, List.take_succ_cons]
      exact .cons h2 hvl
    · cases j with
      | zero => simp at hj; subst hj; rw [show (i.at_.add off).add 0 = i.at_.add off by rw [add_add]; rfl]; exact h1
      | succ j =>
        have := hc j v (by simpa using hj)
        rw [add_add] at this ⊢
        rw [show off + (j + 1) = off + 1 + j by omega]; exact this

theorem run_aload {ρ : Ren} {w : World} {t : TypeId} {id off : Nat} {v : Value} {i : Info} {c : List Value} {e : TypeId} {ro : Bool} (hi : ρ id = some i) (hg : H.get id = some (.cells c e ro)) (hb : BlkRel P ρ i w (.cells c e ro))
    (hl : aload P t ⟨id, off, none⟩ H = some v) : ∃ v', (loadVar t (i.at_.add off)).run P w = .ok v' w ∧ V ρ v v' := by
  unfold aload at hl
  cases hu : P.underlying t with
  | none => simp [hu] at hl
  | some d =>
    cases hf : P.info? t with
    | none => simp [hu, hf] at hl
    | some inf =>
      simp only [hu, hf, hg] at hl
      have hagg : (isAgg t).run P w = .ok (isAggD d) w := by
        simp only [isAgg, Sem.run_bind, run_underlying hu, Result.andThen_ok]
        cases d <;> rfl
      split at hl
      · rename_i hd
        split at hl
        · rename_i hlen
          obtain ⟨cs, h1, h2, h3⟩ := hb.cellsAt off inf.size hlen
          cases hl
          refine ⟨.agg cs.toArray, ?_, .agg _ _ (by simpa using h2.1) (fun j x x' a b => h2.2 j x x' (by simpa using a) (by simpa using b))⟩
          have := run_loadCells_list (P := P) w (i.at_.add off) cs h3
          rw [h1] at this
          simp only [loadVar, Sem.run_bind, hagg, Result.andThen_ok, hd, if_true, sizeOf, typeInfo, run_program, hf, Sem.run_pure, this]
        · cases hl
      · rename_i hd
        obtain ⟨v', h1, h2⟩ := hb.cellAt hl
        refine ⟨v', ?_, h2⟩
        simp only [loadVar, Sem.run_bind, hagg, Result.andThen_ok, hd, Bool.false_eq_true, if_false, run_load, h1]

end
end Go.Ab
