/- A step over a part of the heap is one over all of it. -/
import Derived.Test.YthoanamkoigjeaaGreatDoorAbC
import Derived.Scope
import Derived.RecoverIn
set_option linter.unusedVariables false
namespace Go.Ab
section
variable {P : Program}

/-- A heap by a function, up to a bound. -/
noncomputable def Heap.ofFn (next : Nat) (f : Nat → Option Blk) : Heap := ⟨next, (List.range next).foldl (fun t id => t.set id (f id)) .nil⟩

theorem foldl_get (f : Nat → Option Blk) : ∀ (l : List Nat) (t : Tr Blk) (id : Nat), (l.foldl (fun t id => t.set id (f id)) t).get id = if id ∈ l then f id else t.get id
  | [], t, id => by simp
  | x :: l, t, id => by
    simp only [List.foldl_cons]
    rw [foldl_get f l, Tr.get_set]
    by_cases h1 : id ∈ l
    · simp [h1]
    · by_cases h2 : id = x
      · subst h2; simp
      · simp [h1, h2]

theorem Heap.get_ofFn (next : Nat) (f : Nat → Option Blk) (id : Nat) : (Heap.ofFn next f).get id = if id < next then f id else none := by
  unfold Heap.ofFn Heap.get
  rw [foldl_get]
  simp [Tr.get_nil]

/-- Two renamings together, the second one first. -/
noncomputable def join (ρ ρ' : Ren) : Ren := fun id => match ρ' id with | some i => some i | none => ρ id
theorem join_left {ρ ρ' : Ren} {id : Nat} (h : ρ' id = none) : join ρ ρ' id = ρ id := by simp [join, h]
theorem join_right {ρ ρ' : Ren} {id : Nat} {i : Info} (h : ρ' id = some i) : join ρ ρ' id = some i := by simp [join, h]

/-- A step, without where new names lie. -/
structure St0 (ρ : Ren) (H : Heap) (w : World) (ρ' : Ren) (H' : Heap) (w' : World) : Prop where
  mono : Sub ρ ρ'
  next : H.next ≤ H'.next
  dead : ∀ id i, ρ id = some i → H.get id = none → H'.get id = none
  ro : ∀ id i b b', ρ id = some i → H.get id = some b → b.ro = true → H'.get id = some b' → b'.ro = true
  fresh : ∀ id i, ρ' id = some i → ρ id = none → w.heap.size ≤ i.at_.block ∨ ∃ id0 i0 b0, ρ id0 = some i0 ∧ i0.at_.block = i.at_.block ∧ H.get id0 = some b0 ∧ b0.ro = false
  os : w'.os = w.os
  tape : w'.tape = w.tape
  output : w'.output = w.output
  size : w.heap.size ≤ w'.heap.size
  frame : ∀ b, b < w.heap.size → (∀ id i bl, ρ id = some i → H.get id = some bl → bl.ro = false → i.at_.block ≠ b) → w'.heap[b]? = w.heap[b]?

theorem St.to0 {ρ ρ' : Ren} {H H' : Heap} {w w' : World} (h : St ρ H w ρ' H' w') : St0 ρ H w ρ' H' w' :=
  ⟨h.mono, h.next, h.dead, h.ro, fun id i a b => (h.fresh id i a b).2, h.os, h.tape, h.output, h.size, h.frame⟩
theorem St0.full {ρ ρ' : Ren} {H H' : Heap} {w w' : World} (h : St0 ρ H w ρ' H' w') (hn : ∀ id i, ρ' id = some i → ρ id = none → H.next ≤ id) : St ρ H w ρ' H' w' :=
  ⟨h.mono, h.next, h.dead, h.ro, fun id i a b => ⟨hn id i a b, h.fresh id i a b⟩, h.os, h.tape, h.output, h.size, h.frame⟩

theorem St0.owned {ρ : Ren} {H : Heap} {w : World} {ρ' : Ren} {H' : Heap} {w' : World} (h : St0 ρ H w ρ' H' w') {id : Nat} {i : Info} {bl : Blk}
    (h1 : ρ' id = some i) (h2 : H'.get id = some bl) (h3 : bl.ro = false) :
    w.heap.size ≤ i.at_.block ∨ ∃ id0 i0 b0, ρ id0 = some i0 ∧ i0.at_.block = i.at_.block ∧ H.get id0 = some b0 ∧ b0.ro = false := by
  cases hr : ρ id with
  | none => exact h.fresh id i h1 hr
  | some i0 =>
    have : i0 = i := by have := h.mono id i0 hr; rw [h1] at this; cases this; rfl
    subst this
    cases hg : H.get id with
    | none => rw [h.dead id i0 hr hg] at h2; cases h2
    | some b0 =>
      refine .inr ⟨id, i0, b0, hr, rfl, hg, ?_⟩
      cases hro : b0.ro with
      | false => rfl
      | true => rw [h.ro id i0 b0 bl hr hg hro h2] at h3; cases h3

theorem St0.trans {ρ ρ1 ρ2 : Ren} {H H1 H2 : Heap} {w w1 w2 : World} (a : St0 ρ H w ρ1 H1 w1) (b : St0 ρ1 H1 w1 ρ2 H2 w2) : St0 ρ H w ρ2 H2 w2 where
  mono := a.mono.trans b.mono
  next := Nat.le_trans a.next b.next
  dead := fun id i h h' => b.dead id i (a.mono _ _ h) (a.dead id i h h')
  ro := fun id i bl bl' h h1 h2 h3 => by
    cases hg : H1.get id with
    | none => rw [b.dead id i (a.mono _ _ h) hg] at h3; cases h3
    | some b1 => exact b.ro id i b1 bl' (a.mono _ _ h) hg (a.ro id i bl b1 h h1 h2 hg) h3
  fresh := fun id i h h' => by
    cases hr : ρ1 id with
    | some i1 =>
      have : i1 = i := by have := b.mono id i1 hr; rw [h] at this; cases this; rfl
      subst this
      exact a.fresh id i1 hr h'
    | none =>
      rcases b.fresh id i h hr with h2 | ⟨id0, i0, b0, e1, e2, e3, e4⟩
      · exact .inl (Nat.le_trans a.size h2)
      · rw [← e2]; exact a.owned e1 e3 e4
  os := b.os.trans a.os
  tape := b.tape.trans a.tape
  output := b.output.trans a.output
  size := Nat.le_trans a.size b.size
  frame := fun bk hb hn => by
    rw [b.frame bk (Nat.lt_of_lt_of_le hb a.size) ?_, a.frame bk hb hn]
    intro id i bl h1 h2 h3 e
    rcases a.owned h1 h2 h3 with h | ⟨id0, i0, b0, e1, e2, e3, e4⟩
    · omega
    · exact hn id0 i0 b0 e1 e3 e4 (e2.trans e)

/-- What becomes of the whole heap: what the part knew, and what is new, as the part says, else as it was. -/
noncomputable def joinF (ρ1 : Ren) (G h h' : Heap) (id : Nat) : Option Blk :=
  if id < h.next then (match ρ1 id, h.get id with | some _, some _ => h'.get id | _, _ => G.get id) else if id < h'.next then h'.get id else G.get id
noncomputable def joinH (ρ1 : Ren) (G h h' : Heap) : Heap := Heap.ofFn (max G.next h'.next) (joinF ρ1 G h h')
theorem joinH_next (ρ1 : Ren) (G h h' : Heap) : (joinH ρ1 G h h').next = max G.next h'.next := rfl
theorem joinH_get {ρ1 : Ren} {G h h' : Heap} {id : Nat} (hlt : id < max G.next h'.next) : (joinH ρ1 G h h').get id = joinF ρ1 G h h' id := by
  unfold joinH; rw [Heap.get_ofFn, if_pos hlt]
theorem joinF_part {ρ1 : Ren} {G h h' : Heap} {id : Nat} {i : Info} {b : Blk} (h1 : id < h.next) (h2 : ρ1 id = some i) (h3 : h.get id = some b) : joinF ρ1 G h h' id = h'.get id := by
  simp [joinF, h1, h2, h3]
theorem joinF_new {ρ1 : Ren} {G h h' : Heap} {id : Nat} (h1 : h.next ≤ id) (h2 : id < h'.next) : joinF ρ1 G h h' id = h'.get id := by
  simp [joinF, Nat.not_lt.2 h1, h2]
theorem joinF_far {ρ1 : Ren} {G h h' : Heap} {id : Nat} (h1 : h.next ≤ id) (h2 : h'.next ≤ id) : joinF ρ1 G h h' id = G.get id := by
  simp [joinF, Nat.not_lt.2 h1, Nat.not_lt.2 h2]
theorem joinF_rest {ρ1 : Ren} {G h h' : Heap} {id : Nat} (h1 : id < h.next) (h2 : ρ1 id = none ∨ h.get id = none) : joinF ρ1 G h h' id = G.get id := by
  unfold joinF
  rw [if_pos h1]
  rcases h2 with h2 | h2 <;> rw [h2] <;> (try (cases ρ1 id)) <;> rfl

/-- Which part a name of the whole belongs to. -/
theorem join_cases {ρ ρ1 ρ' : Ren} {G h h' : Heap} {w w' : World} (sub : Sub ρ1 ρ) (h1 : Sim P ρ1 h w)
    (newer : ∀ id, h.next ≤ id → id < h'.next → ρ id = none) (step : St ρ1 h w ρ' h' w') (h2 : Sim P ρ' h' w') {id : Nat} {i : Info} {b : Blk} (hi : join ρ ρ' id = some i) (hb : joinF ρ1 G h h' id = some b) :
    (ρ' id = some i ∧ h'.get id = some b ∧ ((∃ b0, ρ1 id = some i ∧ h.get id = some b0) ∨ (ρ1 id = none ∧ ρ id = none))) ∨ (ρ id = some i ∧ G.get id = some b ∧ (ρ1 id = none ∨ h.get id = none)) := by
  have hρ' : ∀ j, ρ' id = some j → i = j := fun j hj => by rw [join_right hj] at hi; cases hi; rfl
  by_cases c1 : id < h.next
  · cases e1 : ρ1 id with
    | none =>
      rw [joinF_rest c1 (.inl e1)] at hb
      have : ρ' id = none := by
        cases e : ρ' id with
        | none => rfl
        | some j => have := (step.fresh id j e e1).1; omega
      rw [join_left this] at hi
      exact .inr ⟨hi, hb, .inl rfl⟩
    | some i1 =>
      have hm := step.mono id i1 e1
      obtain rfl := hρ' i1 hm
      cases e2 : h.get id with
      | none =>
        rw [joinF_rest c1 (.inr e2)] at hb
        exact .inr ⟨sub id i e1, hb, .inr rfl⟩
      | some b0 =>
        rw [joinF_part c1 e1 e2] at hb
        exact .inl ⟨hm, hb, .inl ⟨b0, rfl, rfl⟩⟩
  · have e1 : ρ1 id = none := by
      cases e : ρ1 id with
      | none => rfl
      | some j => have := h1.dom id j e; omega
    by_cases c2 : id < h'.next
    · rw [joinF_new (by omega) c2] at hb
      have hn := newer id (by omega) c2
      cases e : ρ' id with
      | none => rw [join_left e, hn] at hi; cases hi
      | some j => obtain rfl := hρ' j e; exact .inl ⟨rfl, hb, .inr ⟨e1, hn⟩⟩
    · rw [joinF_far (by omega) (by omega)] at hb
      have : ρ' id = none := by
        cases e : ρ' id with
        | none => rfl
        | some j => have := h2.dom id j e; omega
      rw [join_left this] at hi
      exact .inr ⟨hi, hb, .inl e1⟩

theorem frame_step {ρ ρ1 ρ' : Ren} {G h h' : Heap} {w w' : World} (hG : Sim P ρ G w) (sub : Sub ρ1 ρ) (h1 : Sim P ρ1 h w) (agree : ∀ id i b, ρ1 id = some i → h.get id = some b → G.get id = some b)
    (newer : ∀ id, h.next ≤ id → id < h'.next → ρ id = none) (step : St ρ1 h w ρ' h' w') (h2 : Sim P ρ' h' w') :
    St0 ρ G w (join ρ ρ') (joinH ρ1 G h h') w' ∧ Sim P (join ρ ρ') (joinH ρ1 G h h') w' ∧
      (∀ id i b, ρ id = some i → G.get id = some b → (ρ1 id = none ∨ h.get id = none) → w'.heap[i.at_.block]? = w.heap[i.at_.block]?) := by
  have hmono : Sub ρ (join ρ ρ') := fun id i hi => by
    cases e : ρ' id with
    | none => rw [join_left e]; exact hi
    | some j =>
      rw [join_right e]
      cases e1 : ρ1 id with
      | some i1 => have := step.mono id i1 e1; rw [e] at this; cases this; have := sub id j e1; rw [hi] at this; exact this.symm
      | none =>
        have ha := (step.fresh id j e e1).1
        have hb := h2.dom id j e
        rw [newer id ha hb] at hi; cases hi
  have hmono' : Sub ρ' (join ρ ρ') := fun id i hi => join_right hi
  have hsame : ∀ id i b, ρ id = some i → G.get id = some b → (ρ1 id = none ∨ h.get id = none) → w'.heap[i.at_.block]? = w.heap[i.at_.block]? := fun id i b hi hb hc =>
    step.frame _ (hG.live id b i hb hi).lt (fun id1 i1 bl a1 a2 a3 a4 => by
      have hne : id1 ≠ id := fun e => by subst e; rcases hc with hc | hc; (rw [hc] at a1; cases a1); (rw [hc] at a2; cases a2)
      exact hG.sep id1 id bl b i1 i (agree id1 i1 bl a1 a2) hb (sub _ _ a1) hi a3 hne a4)
  have hdom : ∀ id i, join ρ ρ' id = some i → id < max G.next h'.next := fun id i hi => by
    cases e : ρ' id with
    | none => rw [join_left e] at hi; have := hG.dom id i hi; omega
    | some j => have := h2.dom id j e; omega
  refine ⟨⟨hmono, Nat.le_max_left _ _, fun id i hi hg => ?_, fun id i b b' hi hg hr hb => ?_, fun id i hi hn => ?_, step.os, step.tape, step.output, step.size, fun bk hbk hn => ?_⟩, ⟨hdom, fun id b i hb hi => ?_, fun id1 id2 b1 b2 i1 i2 g1 g2 g3 g4 g5 g6 => ?_, fun g hg => ?_⟩, hsame⟩
  · rw [joinH_get (hdom id i (hmono id i hi))]
    cases hb : joinF ρ1 G h h' id with
    | none => rfl
    | some b =>
      rcases join_cases sub h1 newer step h2 (hmono id i hi) hb with ⟨_, _, ⟨b0, e1, e2⟩ | ⟨_, e2⟩⟩ | ⟨_, e2, _⟩
      · rw [agree id i b0 e1 e2] at hg; cases hg
      · rw [hi] at e2; cases e2
      · rw [hg] at e2; cases e2
  · rw [joinH_get (hdom id i (hmono id i hi))] at hb
    rcases join_cases sub h1 newer step h2 (hmono id i hi) hb with ⟨_, e0, ⟨b0, e1, e2⟩ | ⟨_, e2⟩⟩ | ⟨_, e2, _⟩
    · have := agree id i b0 e1 e2
      rw [hg] at this; cases this
      exact step.ro id i b b' e1 e2 hr e0
    · rw [hi] at e2; cases e2
    · rw [hg] at e2; cases e2; exact hr
  · cases e : ρ' id with
    | none => rw [join_left e, hn] at hi; cases hi
    | some j =>
      rw [join_right e] at hi; cases hi
      have e1 : ρ1 id = none := by
        cases e1 : ρ1 id with
        | none => rfl
        | some i1 => rw [sub id i1 e1] at hn; cases hn
      rcases (step.fresh id i e e1).2 with hh | ⟨id0, i0, b0, a1, a2, a3, a4⟩
      · exact .inl hh
      · exact .inr ⟨id0, i0, b0, sub _ _ a1, a2, agree id0 i0 b0 a1 a3, a4⟩
  · exact step.frame bk hbk (fun id i bl a1 a2 a3 => hn id i bl (sub _ _ a1) (agree id i bl a1 a2) a3)
  · rw [joinH_get (hdom id i hi)] at hb
    rcases join_cases sub h1 newer step h2 hi hb with ⟨e0, e1, _⟩ | ⟨e0, e1, e2⟩
    · exact (h2.live id b i e1 e0).mono hmono' rfl
    · exact (hG.live id b i e1 e0).mono hmono (hsame id i b e0 e1 e2)
  · rw [joinH_get (hdom id1 i1 g3)] at g1
    rw [joinH_get (hdom id2 i2 g4)] at g2
    have far : ∀ {ida idb : Nat} {ia ib : Info} {ba bb : Blk}, ρ' ida = some ia → h'.get ida = some ba → ((∃ b0, ρ1 ida = some ia ∧ h.get ida = some b0) ∨ (ρ1 ida = none ∧ ρ ida = none)) → ρ idb = some ib → G.get idb = some bb → (ρ1 idb = none ∨ h.get idb = none) → (ba.ro = false ∨ bb.ro = false) → ia.at_.block ≠ ib.at_.block := by
      intro ida idb ia ib ba bb p1 p2 p3 q1 q2 q3 hro
      have hlt := (hG.live idb bb ib q2 q1).lt
      have hne : ∀ id0 i0 b0, ρ1 id0 = some i0 → h.get id0 = some b0 → id0 ≠ idb := fun id0 i0 b0 r1 r2 e => by subst e; rcases q3 with hc | hc; (rw [hc] at r1; cases r1); (rw [hc] at r2; cases r2)
      have own : (∃ id0 i0 b0, ρ1 id0 = some i0 ∧ i0.at_.block = ia.at_.block ∧ h.get id0 = some b0 ∧ b0.ro = false) → ia.at_.block ≠ ib.at_.block := fun ⟨id0, i0, b0, r1, r2, r3, r4⟩ => by
        rw [← r2]
        exact hG.sep id0 idb b0 bb i0 ib (agree id0 i0 b0 r1 r3) q2 (sub _ _ r1) q1 r4 (hne id0 i0 b0 r1 r3)
      rcases p3 with ⟨b0, r1, r2⟩ | ⟨r1, r2⟩
      · by_cases hb : bb.ro = false
        · exact fun e => hG.sep idb ida bb b0 ib ia q2 (agree ida ia b0 r1 r2) q1 (sub _ _ r1) hb (fun e => hne ida ia b0 r1 r2 e.symm) e.symm
        · have hba : ba.ro = false := hro.resolve_right hb
          rcases step.owned p1 p2 hba with hh | hh
          · omega
          · exact own hh
      · rcases (step.fresh ida ia p1 r1).2 with hh | hh
        · omega
        · exact own hh
    rcases join_cases sub h1 newer step h2 g3 g1 with ⟨p1, p2, p3⟩ | ⟨p1, p2, p3⟩
    · rcases join_cases sub h1 newer step h2 g4 g2 with ⟨q1, q2, q3⟩ | ⟨q1, q2, q3⟩
      · exact h2.sep id1 id2 b1 b2 i1 i2 p2 q2 p1 q1 g5 g6
      · exact far p1 p2 p3 q1 q2 q3 (.inl g5)
    · rcases join_cases sub h1 newer step h2 g4 g2 with ⟨q1, q2, q3⟩ | ⟨q1, q2, q3⟩
      · exact fun e => far q1 q2 q3 p1 p2 p3 (.inr g5) e.symm
      · exact hG.sep id1 id2 b1 b2 i1 i2 p2 q2 p1 q1 g5 g6
  · obtain ⟨j, hj, e⟩ := hG.glob g hg
    exact ⟨j, hmono _ _ hj, e⟩
end
end Go.Ab
/- Regions that draw their order: the text's order serves, by a check. -/
set_option linter.unusedVariables false
namespace Go.Ab

/-! ### What is ordered: masks -/

noncomputable def maskOf (acc : List Nat) (es : List Edge) : Nat := es.foldl (fun s e => bif Region.binds .any e then s ||| (2 ^ e.on ||| acc.getD e.on 0) else s) 0

noncomputable def masks : List Oper → List Nat → List Nat
  | [], acc => acc
  | o :: l, acc => masks l (acc ++ [maskOf acc o.after.toList])

/-- A set of operations that holds with each one all that it waits for. -/
noncomputable def Closed (ops : Array Oper) (L : Nat → Prop) : Prop := ∀ (i : Nat), L i → ∀ o, ops[i]? = some o → ∀ e ∈ o.after, Region.binds .any e = true → L e.on

theorem maskOf_spec {ops : Array Oper} {L : Nat → Prop} (hL : Closed ops L) (acc : List Nat) (hacc : ∀ j m, acc[j]? = some m → L j → ∀ k, m.testBit k = true → L k) :
    ∀ (es : List Edge), (∀ e ∈ es, Region.binds .any e = true → L e.on) → ∀ k, (maskOf acc es).testBit k = true → L k := by
  intro es hes k hk
  have key : ∀ (es : List Edge) (s : Nat), (∀ e ∈ es, Region.binds .any e = true → L e.on) → (∀ k, s.testBit k = true → L k) → ∀ k, (es.foldl (fun s e => bif Region.binds .any e then s ||| (2 ^ e.on ||| acc.getD e.on 0) else s) s).testBit k = true → L k := by
    intro es
    induction es with
    | nil => intro s _ hs k hk; exact hs k hk
    | cons e es ih =>
      intro s he hs k hk
      simp only [List.foldl_cons] at hk
      refine ih _ (fun e' h' => he e' (by simp [h'])) ?_ k hk
      intro k' hk'
      cases hb : Region.binds .any e with
      | false => rw [hb] at hk'; exact hs k' hk'
      | true =>
        rw [hb] at hk'
        have hLe := he e (by simp) hb
        simp only [cond_true, Nat.testBit_or, Bool.or_eq_true] at hk'
        rcases hk' with h | h | h
        · exact hs k' h
        · rw [Nat.testBit_two_pow] at h
          have : e.on = k' := by simpa using h
          rw [← this]; exact hLe
        · cases hg : acc[e.on]? with
          | none => simp [List.getD, hg] at h
          | some m => simp only [List.getD, hg, Option.getD_some] at h; exact hacc e.on m hg hLe k' h
  exact key es 0 hes (fun k h => by simp at h) k hk

theorem masks_spec {ops : Array Oper} {L : Nat → Prop} (hL : Closed ops L) : ∀ (l : List Oper) (acc : List Nat), (∀ j o, l[j]? = some o → ops[acc.length + j]? = some o) → (∀ j m, acc[j]? = some m → L j → ∀ k, m.testBit k = true → L k) →
    ∀ j m, (masks l acc)[j]? = some m → L j → ∀ k, m.testBit k = true → L k
  | [], acc, _, hacc => hacc
  | o :: l, acc, hops, hacc => by
    simp only [masks]
    refine masks_spec hL l _ (fun j o' h => by have := hops (j + 1) o' (by simpa using h); simpa [Nat.add_assoc, Nat.add_comm 1 j] using this) ?_
    intro j m hj hLj k hk
    by_cases hlt : j < acc.length
    · rw [List.getElem?_append_left hlt] at hj; exact hacc j m hj hLj k hk
    · rw [List.getElem?_append_right (by omega)] at hj
      have hj0 : j - acc.length = 0 := by
        cases hd : j - acc.length with
        | zero => rfl
        | succ d => rw [hd] at hj; simp at hj
      rw [hj0] at hj
      simp at hj
      subst hj
      have hje : j = acc.length := by omega
      subst hje
      exact maskOf_spec hL acc hacc o.after.toList (fun e he hb => hL acc.length hLj o (by simpa using hops 0 o rfl) e (by simpa using he) hb) k hk

noncomputable def ordered (ms : List Nat) (i j : Nat) : Bool := Nat.testBit (ms.getD j 0) i

theorem ordered_spec {ops : Array Oper} {L : Nat → Prop} (hL : Closed ops L) {i j : Nat} (h : ordered (masks ops.toList []) i j = true) (hj : L j) : L i := by
  unfold ordered at h
  cases hg : (masks ops.toList [])[j]? with
  | none => simp [List.getD, hg] at h
  | some m =>
    simp only [List.getD, hg, Option.getD_some] at h
    exact masks_spec hL ops.toList [] (fun j o h => by simpa using h) (fun j m h => by simp at h) j m hg hj i h

theorem masks_lt {ops : Array Oper} (hed : ∀ (i : Nat) (o : Oper), ops[i]? = some o → ∀ e ∈ o.after, Region.binds .any e = true → e.on < i) : ∀ (l : List Oper) (acc : List Nat), (∀ (j : Nat) (o : Oper), l[j]? = some o → ops[acc.length + j]? = some o) → (∀ (j : Nat) (m : Nat), acc[j]? = some m → ∀ k, Nat.testBit m k = true → k < j) →
    ∀ (j : Nat) (m : Nat), (masks l acc)[j]? = some m → ∀ k, Nat.testBit m k = true → k < j
  | [], acc, _, hacc => hacc
  | o :: l, acc, hops, hacc => by
    simp only [masks]
    refine masks_lt hed l _ (fun j o' h => by have := hops (j + 1) o' (by simpa using h); simpa [Nat.add_assoc, Nat.add_comm 1 j] using this) ?_
    intro j m hj k hk
    by_cases hlt : j < acc.length
    · rw [List.getElem?_append_left hlt] at hj; exact hacc j m hj k hk
    · rw [List.getElem?_append_right (by omega)] at hj
      have hj0 : j - acc.length = 0 := by
        cases hd : j - acc.length with
        | zero => rfl
        | succ d => rw [hd] at hj; simp at hj
      rw [hj0] at hj
      simp at hj
      subst hj
      have hje : j = acc.length := by omega
      subst hje
      refine maskOf_spec (ops := ops) (L := fun k => k < acc.length) (fun i hi o' ho' e he hb => by have := hed i o' ho' e he hb; omega) acc (fun j m hjm hj k hk => by have := hacc j m hjm k hk; omega) o.after.toList (fun e he hb => hed acc.length o (by simpa using hops 0 o rfl) e (by simpa using he) hb) k hk

theorem ordered_lt {ops : Array Oper} (hed : ∀ (i : Nat) (o : Oper), ops[i]? = some o → ∀ e ∈ o.after, Region.binds .any e = true → e.on < i) {i j : Nat} (h : ordered (masks ops.toList []) i j = true) : i < j := by
  unfold ordered at h
  cases hg : (masks ops.toList [])[j]? with
  | none => simp [List.getD, hg] at h
  | some m =>
    simp only [List.getD, hg, Option.getD_some] at h
    exact masks_lt hed ops.toList [] (fun j o h => by simpa using h) (fun j m h => by simp at h) j m hg i h

/-! ### The check by text -/

/-- The slots that an operation looks at. -/
noncomputable def looks (ops : Array Oper) (o : Oper) : List Nat :=
  (o.op.operands.toList.filterMap fun | .tmp t => some t | _ => none) ++ (match o.guard with | some (j, _) => (guardSlot ops j).toList | none => [])

/-- Each edge leads back; whoever writes a slot that another one looks at or writes is ordered with it; what acts on memory is in one order. -/
noncomputable def drawOk (ops : Array Oper) (gen : Nat → Bool) : Bool :=
  let ms := masks ops.toList []
  (List.range ops.size).all fun j =>
    match ops[j]? with
    | none => true
    | some o =>
      o.after.all (fun e => !(Region.binds .any e) || Nat.blt e.on j) &&
      (match o.op with | .select .. => false | _ => true) &&
      (List.range ops.size).all fun i =>
        match ops[i]? with
        | none => true
        | some oi =>
          (Nat.beq i j || (match oi.dst with | some t => !((looks ops o).contains t || o.dst == some t) | none => true) || (if i < j then ordered ms i j else ordered ms j i)) &&
          (!(gen i && gen j && Nat.blt i j) || ordered ms i j)

/-! ### Values below a bound -/

noncomputable def restr (ρ : Ren) (m : Nat) : Ren := fun id => if id < m then ρ id else none
theorem restr_sub (ρ : Ren) (m : Nat) : Sub (restr ρ m) ρ := fun id i h => by
  unfold restr at h; split at h
  · exact h
  · cases h
theorem restr_le {ρ ρ' : Ren} {m m' : Nat} (hs : Sub ρ ρ') (h : m ≤ m') : Sub (restr ρ m) (restr ρ' m') := fun id i hi => by
  unfold restr at hi ⊢
  split at hi
  · rw [if_pos (by omega)]; exact hs id i hi
  · cases hi
theorem restr_some {ρ : Ren} {m id : Nat} {i : Info} (h : restr ρ m id = some i) : id < m ∧ ρ id = some i := by
  unfold restr at h; split at h
  · exact ⟨‹_›, h⟩
  · cases h
theorem restr_mk {ρ : Ren} {m id : Nat} {i : Info} (h : id < m) (h' : ρ id = some i) : restr ρ m id = some i := by
  unfold restr; rw [if_pos h]; exact h'

noncomputable def belowV (m : Nat) : Nat → Value → Bool
  | 0, v => plain v
  | f + 1, v => match v with
    | .pointer (some a) => Nat.blt a.block m
    | .slice (some a) _ _ => Nat.blt a.block m
    | .map (some r) => Nat.blt r m
    | .func fn xs ys => (match fn with | .yield l => Nat.blt l m | _ => true) && xs.all (belowV m f) && ys.all (belowV m f)
    | .iface _ v => belowV m f v
    | .agg xs => xs.all (belowV m f)
    | .tuple xs => xs.all (belowV m f)
    | v => plain v

theorem belowV_V {ρ : Ren} {m : Nat} : ∀ (f : Nat) {v v' : Value}, V ρ v v' → belowV m f v = true → V (restr ρ m) v v' := by
  intro f
  induction f with
  | zero =>
    intro v v' h hb
    rw [h.plain_eq hb]; exact .same _ hb
  | succ f ih =>
    intro v v' h hb
    have arr : ∀ {xs xs' : Array Value}, xs.all (belowV m f) = true → (∀ (j : Nat) x x', xs[j]? = some x → xs'[j]? = some x' → V ρ x x') → ∀ (j : Nat) x x', xs[j]? = some x → xs'[j]? = some x' → V (restr ρ m) x x' := fun ha hr j x x' e e' =>
      ih (hr j x x' e e') (Array.all_eq_true_iff_forall_mem.1 ha x (Array.mem_of_getElem? e))
    cases h with
    | same v hp => exact .same v hp
    | ptr id off i h => exact .ptr id off i (restr_mk (by simpa [belowV] using hb) h)
    | slice id off len cap cap' i a' h h1 h2 h0 h3 h4 => exact .slice id off len cap cap' i a' (restr_mk (by simpa [belowV] using hb) h) h1 h2 h0 h3 h4
    | map id i h => exact .map id i (restr_mk (by simpa [belowV] using hb) h)
    | func fn xs ys xs' ys' hn h1 h2 h3 h4 =>
      simp only [belowV, Bool.and_eq_true] at hb
      exact .func fn xs ys xs' ys' hn h1 h2 (arr hb.1.2 h3) (arr hb.2 h4)
    | yield l i h => exact .yield l i (restr_mk (by simpa [belowV] using hb) h)
    | iface t v v' h => exact .iface t v v' (ih h (by simpa [belowV] using hb))
    | agg xs xs' h1 h2 => exact .agg xs xs' h1 (arr (by simpa only [belowV] using hb) h2)
    | tuple xs xs' h1 h2 => exact .tuple xs xs' h1 (arr (by simpa only [belowV] using hb) h2)

/-! ### The run in the text's order -/

inductive Cls where
  | pure
  | load
  | alloc (b : Blk)
  | gen

noncomputable def isGen : Cls → Bool
  | .gen => true
  | _ => false

/-- Whether an operation runs. -/
noncomputable def wantedA (n : Nat) (ops : Array Oper) (A : Env) (o : Oper) : Option Bool :=
  match o.guard with
  | none => some true
  | some (j, want) => match guardSlot ops j with
    | some t => if t < n then (match A t with | .bool b => some (b == want) | .tuple _ => some false | _ => none) else none
    | none => none

section
variable (P : Program) (n : Nat) (ops : Array Oper) (As : Nat → Env) (Hs : Nat → Heap) (vs : Nat → Value) (cls : Nat → Cls)

noncomputable def StepOk (i : Nat) (o : Oper) : Prop :=
  (wantedA n ops (As i) o = some false ∧ vs i = undef ∧ Hs (i + 1) = Hs i ∧ cls i = .pure) ∨
  (wantedA n ops (As i) o = some true ∧ match cls i with
    | .pure => Hs (i + 1) = Hs i ∧ ∀ h, OpDoes P o (As i) h (vs i) h
    | .load => Hs (i + 1) = Hs i ∧ ∃ t x a, o.op = .load t x ∧ ev (As i) x = .pointer (some a) ∧ aload P t a (Hs i) = some (vs i) ∧
        ∀ k, k < ops.size → isGen (cls k) = true → ordered (masks ops.toList []) i k = false → ordered (masks ops.toList []) k i = false → aload P t a (Hs k) = some (vs i) ∧ aload P t a (Hs (k + 1)) = some (vs i) ∧ belowV (Hs i).next 6 (vs i) = true
    | .alloc b => Hs (i + 1) = (Hs i).push b ∧ (∀ h, h.next = (Hs i).next → OpDoes P o (As i) h (vs i) (h.push b)) ∧
        ∀ k, k < ops.size → i < k → isGen (cls k) = true → ordered (masks ops.toList []) i k = false → (Hs (k + 1)).get (Hs i).next = (Hs k).get (Hs i).next
    | .gen => OpDoes P o (As i) (Hs i) (vs i) (Hs (i + 1)))

structure Facts : Prop where
  env : ∀ (i : Nat) (o : Oper), ops[i]? = some o → As (i + 1) = updO (As i) o.dst (vs i)
  next : ∀ i, i < ops.size → (Hs i).next ≤ (Hs (i + 1)).next
  ok : ∀ (i : Nat) (o : Oper), ops[i]? = some o → okOp P n o = true
  step : ∀ (i : Nat) (o : Oper), ops[i]? = some o → StepOk P n ops As Hs vs cls i o
  check : drawOk ops (fun i => isGen (cls i)) = true
end

section
variable {P : Program} {n : Nat} {ops : Array Oper} {As : Nat → Env} {Hs : Nat → Heap} {vs : Nat → Value} {cls : Nat → Cls}

theorem Facts.next_le (F : Facts P n ops As Hs vs cls) {i j : Nat} (hij : i ≤ j) (hj : j ≤ ops.size) : (Hs i).next ≤ (Hs j).next := by
  induction j with
  | zero =>
    obtain rfl : i = 0 := by omega
    exact Nat.le_refl _
  | succ j ih =>
    by_cases e : i = j + 1
    · subst e; exact Nat.le_refl _
    · exact Nat.le_trans (ih (by omega) (by omega)) (F.next j (by omega))

/-- What the check says of two operations. -/
theorem Facts.checked (F : Facts P n ops As Hs vs cls) {i j : Nat} {oi oj : Oper} (hi : ops[i]? = some oi) (hj : ops[j]? = some oj) :
    (∀ e ∈ oj.after, Region.binds .any e = true → e.on < j) ∧ (∀ cs b, oj.op ≠ .select cs b) ∧
    (i ≠ j → ∀ t, oi.dst = some t → (t ∈ looks ops oj ∨ oj.dst = some t) → (i < j → ordered (masks ops.toList []) i j = true) ∧ (j < i → ordered (masks ops.toList []) j i = true)) ∧
    (isGen (cls i) = true → isGen (cls j) = true → i < j → ordered (masks ops.toList []) i j = true) := by
  have hil : i < ops.size := (Array.getElem?_eq_some_iff.1 hi).1
  have hjl : j < ops.size := (Array.getElem?_eq_some_iff.1 hj).1
  have hc := F.check
  unfold drawOk at hc
  simp only [List.all_eq_true, List.mem_range] at hc
  have h1 := hc j hjl
  rw [hj] at h1
  simp only [Bool.and_eq_true, List.all_eq_true, List.mem_range] at h1
  obtain ⟨⟨ha, hs⟩, hp⟩ := h1
  have h2 := hp i hil
  rw [hi] at h2
  simp only [Bool.and_eq_true] at h2
  refine ⟨fun e he hb => ?_, fun cs b e => ?_, fun hne t ht hl => ?_, fun g1 g2 hlt => ?_⟩
  · have := Array.all_eq_true_iff_forall_mem.1 ha e he
    simpa [hb] using this
  · rw [e] at hs; cases hs
  · have h3 := h2.1
    rw [ht] at h3
    have hl' : ((looks ops oj).contains t || oj.dst == some t) = true := by
      rcases hl with h | h
      · simp [h]
      · simp [h]
    have hne' : Nat.beq i j = false := by rw [nbeq]; simpa using hne
    simp only [hl', hne', Bool.not_true, Bool.false_or] at h3
    refine ⟨fun h => by rw [if_pos h] at h3; exact h3, fun h => by rw [if_neg (by omega)] at h3; exact h3⟩
  · have h3 := h2.2
    have hb : Nat.blt i j = true := by simpa using hlt
    simpa [g1, g2, hb] using h3

/-- A step that does not act on memory leaves a block as it is. -/
theorem Facts.quiet (F : Facts P n ops As Hs vs cls) {k : Nat} {o : Oper} (hk : ops[k]? = some o) (hg : isGen (cls k) = false) {id : Nat} (hid : id < (Hs k).next) : (Hs (k + 1)).get id = (Hs k).get id := by
  rcases F.step k o hk with ⟨_, _, h, _⟩ | ⟨_, h⟩
  · rw [h]
  · cases hc : cls k with
    | pure => rw [hc] at h; simp only at h; rw [h.1]
    | load => rw [hc] at h; simp only at h; rw [h.1]
    | alloc b => rw [hc] at h; simp only at h; rw [h.1, Heap.get_push, if_neg (by omega)]
    | gen => rw [hc] at hg; cases hg

noncomputable def L (listed : Array Bool) (i : Nat) : Prop := listed.getD i false = true

structure Inv (P : Program) (n : Nat) (ops : Array Oper) (As : Nat → Env) (Hs : Nat → Heap) (cls : Nat → Cls) (d0 : List Deferred) (ρ0 : Ren) (w0 : World) (listed : Array Bool) (a : Act) (w : World) (ρ : Ren) (G : Heap) : Prop where
  size : listed.size = ops.size
  closed : Closed ops (L listed)
  st : St0 ρ0 (Hs 0) w0 ρ G w
  sim : Sim P ρ G w
  dom : ∀ id i, ρ id = some i → ρ0 id = some i ∨ ∃ k, k < ops.size ∧ L listed k ∧ (Hs k).next ≤ id ∧ id < (Hs (k + 1)).next
  dom0 : ∀ id i, ρ0 id = some i → id < (Hs 0).next
  glob0 : ∀ g, g < P.globals.size → ∃ i, ρ0 g = some i ∧ i.at_ = ⟨g, 0, none⟩
  blk : ∀ id i, ρ id = some i → ∃ q, q ≤ ops.size ∧ id < (Hs q).next ∧ G.get id = (Hs q).get id ∧ (∀ b, G.get id = some b → BlkRel P (restr ρ (Hs q).next) i w b) ∧
    (∀ k, k < ops.size → isGen (cls k) = true → L listed k → k < q ∨ (Hs (k + 1)).get id = (Hs k).get id) ∧
    (∀ k, k < ops.size → isGen (cls k) = true → ¬ L listed k → q ≤ k ∨ (Hs (k + 1)).next ≤ id) ∧
    (q = 0 ∨ ∃ k, k < ops.size ∧ L listed k ∧ q = k + 1 ∧ (isGen (cls k) = true ∨ (Hs k).next ≤ id))
  defers : a.defers = d0
  tsize : a.tmps.size = n
  tmps : ∀ t, t < n → ∃ r, r ≤ ops.size ∧ V (restr ρ (Hs r).next) (As r t) (a.tmps.getD t undef) ∧
    (∀ (k : Nat) (o : Oper), ops[k]? = some o → o.dst = some t → L listed k → k < r) ∧ (∀ (k : Nat) (o : Oper), ops[k]? = some o → o.dst = some t → ¬ L listed k → r ≤ k) ∧
    (r = 0 ∨ ∃ (k : Nat) (o : Oper), ops[k]? = some o ∧ o.dst = some t ∧ L listed k ∧ r = k + 1)

section
variable {d0 : List Deferred} {ρ0 : Ren} {w0 : World} {listed : Array Bool} {a : Act} {w : World} {ρ : Ren} {G : Heap}

/-- What is ready, and what waits for it. -/
structure Rdy (ops : Array Oper) (listed : Array Bool) (i : Nat) (o : Oper) : Prop where
  at_ : ops[i]? = some o
  not : ¬ L listed i
  pre : ∀ k, ordered (masks ops.toList []) k i = true → L listed k
  post : ∀ k, ordered (masks ops.toList []) i k = true → ¬ L listed k
  ed : ∀ e ∈ o.after, Region.binds .any e = true → L listed e.on

theorem env_same (F : Facts P n ops As Hs vs cls) {t : Nat} : ∀ {i j : Nat}, i ≤ j → j ≤ ops.size → (∀ (k : Nat) (o : Oper), i ≤ k → k < j → ops[k]? = some o → o.dst ≠ some t) → As j t = As i t := by
  intro i j
  induction j with
  | zero =>
    intro h _ _; obtain rfl : i = 0 := by omega
    rfl
  | succ j ih =>
    intro h hj hw
    by_cases e : i = j + 1
    · subst e; rfl
    · have hlt : j < ops.size := by omega
      have ho : ops[j]? = some ops[j] := Array.getElem?_eq_getElem hlt
      have hne := hw j ops[j] (by omega) (by omega) ho
      rw [F.env j _ ho]
      have : updO (As j) ops[j].dst (vs j) t = As j t := by
        cases hd : ops[j].dst with
        | none => rfl
        | some d =>
          have : t ≠ d := fun e => hne (by rw [hd, e])
          exact upd_ne _ _ this
      rw [this]
      exact ih (by omega) (by omega) (fun k o h1 h2 h3 => hw k o h1 (by omega) h3)

/-- An operand's slot holds, at any time when the operation is ready, what it holds in the text's order. -/
theorem Inv.slot (F : Facts P n ops As Hs vs cls) (I : Inv P n ops As Hs cls d0 ρ0 w0 listed a w ρ G) {i : Nat} {o : Oper} (R : Rdy ops listed i o) {t : Nat} (ht : t < n) (hl : t ∈ looks ops o) :
    V (restr ρ (Hs i).next) (As i t) (a.tmps.getD t undef) := by
  have hil : i < ops.size := (Array.getElem?_eq_some_iff.1 R.at_).1
  obtain ⟨r, hr, hv, h1, h2, h3⟩ := I.tmps t ht
  have hri : r ≤ i := by
    rcases h3 with rfl | ⟨k, ok, hk, hd, hL, rfl⟩
    · omega
    · by_cases hki : k < i
      · omega
      · exfalso
        have hne : k ≠ i := fun e => R.not (e ▸ hL)
        have := ((F.checked hk R.at_).2.2.1 hne t hd (.inl hl)).2 (by omega)
        exact R.post k this hL
  have hsame : As i t = As r t := env_same F hri (by omega) (fun k ok hk1 hk2 hk hd => by
    have hord := ((F.checked hk R.at_).2.2.1 (by omega) t hd (.inl hl)).1 hk2
    have := h1 k ok hk hd (R.pre k hord)
    omega)
  rw [hsame]
  exact hv.mono (restr_le (.refl ρ) (F.next_le hri (by omega)))

theorem Inv.operands (F : Facts P n ops As Hs vs cls) (I : Inv P n ops As Hs cls d0 ρ0 w0 listed a w ρ G) {i : Nat} {o : Oper} (R : Rdy ops listed i o) : OpRel (restr ρ (Hs i).next) o (As i) a := by
  intro x hx
  have hok := F.ok i o R.at_
  simp only [okOp, Bool.and_eq_true] at hok
  have hx' := Array.all_eq_true_iff_forall_mem.1 hok.2 x hx
  cases x with
  | tmp t =>
    refine I.slot F R (by simpa [okArg] using hx') ?_
    unfold looks
    refine List.mem_append_left _ (List.mem_filterMap.2 ⟨.tmp t, by simpa using hx, rfl⟩)
  | const v => exact .closed hx'
  | global gg =>
    have hgl : gg < P.globals.size := by simpa [okArg] using hx'
    obtain ⟨j, hj0, e⟩ := I.glob0 gg hgl
    have hj := I.st.mono gg j hj0
    have hlt : gg < (Hs 0).next := I.dom0 gg j hj0
    have hil : i < ops.size := (Array.getElem?_eq_some_iff.1 R.at_).1
    have := V.ptr (ρ := restr ρ (Hs i).next) gg 0 j (restr_mk (Nat.lt_of_lt_of_le hlt (F.next_le (Nat.zero_le _) (by omega))) hj)
    rw [e] at this
    exact this
  | func f => exact .func _ _ _ _ _ rfl rfl rfl (fun j x x' h => by simp at h) (fun j x x' h => by simp at h)

theorem L_set {listed : Array Bool} {i k : Nat} (hi : i < listed.size) : L (listed.setIfInBounds i true) k ↔ k = i ∨ L listed k := by
  unfold L
  by_cases e : k = i
  · subst e; simp [Array.getD_eq_getD_getElem?, hi]
  · rw [Array.getD_eq_getD_getElem?, Array.getElem?_setIfInBounds_ne (by omega), ← Array.getD_eq_getD_getElem?]
    simp [e]

theorem Inv.after (F : Facts P n ops As Hs vs cls) (I : Inv P n ops As Hs cls d0 ρ0 w0 listed a w ρ G) {i : Nat} {o : Oper} (R : Rdy ops listed i o) {ρ2 : Ren} {G2 : Heap} {w' : World} {v' : Value}
    (hst : St0 ρ G w ρ2 G2 w') (hsim : Sim P ρ2 G2 w') (hv : V (restr ρ2 (Hs (i + 1)).next) (vs i) v') (hdom : ∀ id j, ρ2 id = some j → ρ id = some j ∨ ((Hs i).next ≤ id ∧ id < (Hs (i + 1)).next))
    (hblk : ∀ id j, ρ2 id = some j → ∃ q, q ≤ ops.size ∧ id < (Hs q).next ∧ G2.get id = (Hs q).get id ∧ (∀ b, G2.get id = some b → BlkRel P (restr ρ2 (Hs q).next) j w' b) ∧
      (∀ k, k < ops.size → isGen (cls k) = true → (k = i ∨ L listed k) → k < q ∨ (Hs (k + 1)).get id = (Hs k).get id) ∧
      (∀ k, k < ops.size → isGen (cls k) = true → k ≠ i → ¬ L listed k → q ≤ k ∨ (Hs (k + 1)).next ≤ id) ∧
      (q = 0 ∨ ∃ k, k < ops.size ∧ (k = i ∨ L listed k) ∧ q = k + 1 ∧ (isGen (cls k) = true ∨ (Hs k).next ≤ id))) :
    Inv P n ops As Hs cls d0 ρ0 w0 (listed.setIfInBounds i true) (a.put o.dst v') w' ρ2 G2 := by
  have hil : i < ops.size := (Array.getElem?_eq_some_iff.1 R.at_).1
  have hls : i < listed.size := by rw [I.size]; exact hil
  have hok := okOp_dst (F.ok i o R.at_)
  refine ⟨by simp [I.size], fun k hk ok hok' e he hb => ?_, I.st.trans hst, hsim, fun id j hj => ?_, I.dom0, I.glob0, fun id j hj => ?_, ?_, ?_, fun t ht => ?_⟩
  · rw [L_set hls] at hk ⊢
    rcases hk with rfl | hk
    · rw [R.at_] at hok'; cases hok'
      exact .inr (R.ed e he hb)
    · exact .inr (I.closed k hk ok hok' e he hb)
  · rcases hdom id j hj with h | ⟨h1, h2⟩
    · rcases I.dom id j h with h0 | ⟨k, k1, k2, k3, k4⟩
      · exact .inl h0
      · exact .inr ⟨k, k1, (L_set hls).2 (.inr k2), k3, k4⟩
    · exact .inr ⟨i, hil, (L_set hls).2 (.inl rfl), h1, h2⟩
  · obtain ⟨q, q1, q2, q3, q4, q5, q6, q7⟩ := hblk id j hj
    refine ⟨q, q1, q2, q3, q4, fun k hk hg hl => q5 k hk hg ((L_set hls).1 hl), fun k hk hg hl => ?_, ?_⟩
    · rw [L_set hls] at hl
      exact q6 k hk hg (fun e => hl (.inl e)) (fun e => hl (.inr e))
    · rcases q7 with h | ⟨k, k1, k2, k3, k4⟩
      · exact .inl h
      · exact .inr ⟨k, k1, (L_set hls).2 k2, k3, k4⟩
  · have := I.defers
    cases o.dst <;> exact this
  · have := I.tsize
    cases o.dst <;> simp [Act.put, this]
  · by_cases hd : o.dst = some t
    · refine ⟨i + 1, by omega, ?_, fun k ok hk hdk hl => ?_, fun k ok hk hdk hl => ?_, .inr ⟨i, o, R.at_, hd, (L_set hls).2 (.inl rfl), rfl⟩⟩
      · rw [F.env i o R.at_, hd]
        simp only [updO, upd_same, Act.put]
        rw [Array.getD_eq_getD_getElem?, Array.getElem?_setIfInBounds_self_of_lt (by rw [I.tsize]; exact ht)]
        exact hv
      · rw [L_set hls] at hl
        rcases hl with rfl | hl
        · omega
        · by_cases hlt : k < i + 1
          · exact hlt
          · have := ((F.checked hk R.at_).2.2.1 (by omega) t hdk (.inr hd)).2 (by omega)
            exact absurd hl (R.post k this)
      · rw [L_set hls] at hl
        by_cases hlt : i + 1 ≤ k
        · exact hlt
        · have hne : k ≠ i := fun e => hl (.inl e)
          have := ((F.checked hk R.at_).2.2.1 hne t hdk (.inr hd)).1 (by omega)
          exact absurd (.inr (R.pre k this)) hl
    · obtain ⟨r, r1, r2, r3, r4, r5⟩ := I.tmps t ht
      refine ⟨r, r1, ?_, fun k ok hk hdk hl => ?_, fun k ok hk hdk hl => r4 k ok hk hdk (fun h => hl ((L_set hls).2 (.inr h))), ?_⟩
      · have hsame : (a.put o.dst v').tmps.getD t undef = a.tmps.getD t undef := by
          cases hdd : o.dst with
          | none => rfl
          | some d =>
            have : d ≠ t := fun e => hd (by rw [hdd, e])
            simp only [Act.put]
            rw [Array.getD_eq_getD_getElem?, Array.getElem?_setIfInBounds_ne this, ← Array.getD_eq_getD_getElem?]
        rw [hsame]
        exact r2.mono (restr_le hst.mono (Nat.le_refl _))
      · rw [L_set hls] at hl
        rcases hl with rfl | hl
        · rw [R.at_] at hk; cases hk; exact absurd hdk hd
        · exact r3 k ok hk hdk hl
      · rcases r5 with h | ⟨k, ok, k1, k2, k3, k4⟩
        · exact .inl h
        · exact .inr ⟨k, ok, k1, k2, (L_set hls).2 (.inr k3), k4⟩

/-- A step that touches nothing that is known. -/
theorem Inv.still (F : Facts P n ops As Hs vs cls) (I : Inv P n ops As Hs cls d0 ρ0 w0 listed a w ρ G) {i : Nat} {o : Oper} (R : Rdy ops listed i o) (hg : isGen (cls i) = false) {v' : Value} (hv : V (restr ρ (Hs (i + 1)).next) (vs i) v') :
    Inv P n ops As Hs cls d0 ρ0 w0 (listed.setIfInBounds i true) (a.put o.dst v') w ρ G := by
  refine I.after F R ⟨.refl ρ, Nat.le_refl _, fun _ _ _ h => h, fun _ _ b b' _ h hr h' => (by rw [h] at h'; cases h'; exact hr), fun id i h h' => (by rw [h'] at h; cases h), rfl, rfl, rfl, Nat.le_refl _, fun _ _ _ => rfl⟩ I.sim hv (fun id j h => .inl h) (fun id j hj => ?_)
  obtain ⟨q, q1, q2, q3, q4, q5, q6, q7⟩ := I.blk id j hj
  refine ⟨q, q1, q2, q3, q4, fun k hk hgk hl => ?_, fun k hk hgk _ hl => q6 k hk hgk hl, ?_⟩
  · rcases hl with rfl | hl
    · rw [hg] at hgk; cases hgk
    · exact q5 k hk hgk hl
  · rcases q7 with h | ⟨k, k1, k2, k3, k4⟩
    · exact .inl h
    · exact .inr ⟨k, k1, .inr k2, k3, k4⟩

/-- A step over a part of what is known. -/
theorem Inv.frame (F : Facts P n ops As Hs vs cls) (I : Inv P n ops As Hs cls d0 ρ0 w0 listed a w ρ G) {i : Nat} {o : Oper} (R : Rdy ops listed i o) {h h' : Heap} (hn : h.next = (Hs i).next) (hn' : h'.next = (Hs (i + 1)).next)
    (hs1 : Sim P (restr ρ (Hs i).next) h w) (agree : ∀ id j b, restr ρ (Hs i).next id = some j → h.get id = some b → G.get id = some b)
    (hpart : ∀ id j b, restr ρ (Hs i).next id = some j → h.get id = some b → h'.get id = (Hs (i + 1)).get id ∧ isGen (cls i) = true)
    (hnew : ∀ id, (Hs i).next ≤ id → id < (Hs (i + 1)).next → h'.get id = (Hs (i + 1)).get id ∧ ∀ k, k < ops.size → i < k → isGen (cls k) = true → L listed k → (Hs (k + 1)).get id = (Hs k).get id)
    (hrest : isGen (cls i) = true → ∀ id j, ρ id = some j → id < (Hs i).next → h.get id = none → (Hs i).get id = none)
    {ρ' : Ren} {w' : World} {v' : Value} (hv : V ρ' (vs i) v') (hst : St (restr ρ (Hs i).next) h w ρ' h' w') (hs' : Sim P ρ' h' w') (hdead : isGen (cls i) = true → ∀ id j, restr ρ (Hs i).next id = some j → (Hs i).get id = none → (Hs (i + 1)).get id = none) :
    ∃ ρ2 G2, Inv P n ops As Hs cls d0 ρ0 w0 (listed.setIfInBounds i true) (a.put o.dst v') w' ρ2 G2 := by
  have hil : i < ops.size := (Array.getElem?_eq_some_iff.1 R.at_).1
  have hnewer : ∀ id, h.next ≤ id → id < h'.next → ρ id = none := fun id h1 h2 => by
    cases e : ρ id with
    | none => rfl
    | some j =>
      rw [hn] at h1; rw [hn'] at h2
      exfalso
      rcases I.dom id j e with h0 | ⟨k, k1, k2, k3, k4⟩
      · have := I.dom0 id j h0
        have := F.next_le (Nat.zero_le i) (by omega)
        omega
      · have hne : k ≠ i := fun e => R.not (e ▸ k2)
        rcases Nat.lt_or_gt_of_ne hne with hlt | hgt
        · have := F.next_le (show k + 1 ≤ i by omega) (by omega); omega
        · have := F.next_le (show i + 1 ≤ k by omega) (by omega); omega
  obtain ⟨t1, t2, t3⟩ := frame_step I.sim (restr_sub ρ _) hs1 agree hnewer hst hs'
  have hsubJ : Sub ρ' (restr (join ρ ρ') (Hs (i + 1)).next) := fun id j hj => restr_mk (by rw [← hn']; exact hs'.dom id j hj) (join_right hj)
  refine ⟨_, _, I.after F R t1 t2 (hv.mono hsubJ) (fun id j hj => ?_) (fun id j hj => ?_)⟩
  · cases e : ρ' id with
    | none => rw [join_left e] at hj; exact .inl hj
    | some j' =>
      rw [join_right e] at hj; cases hj
      cases e1 : restr ρ (Hs i).next id with
      | some j1 =>
        have := hst.mono id j1 e1
        rw [e] at this; cases this
        exact .inl (restr_some e1).2
      | none =>
        have h1 := (hst.fresh id j e e1).1
        have h2 := hs'.dom id j e
        exact .inr ⟨by omega, by omega⟩
  · have hlt2 : id < max G.next h'.next := t2.dom id j hj
    have hgen_lt : ∀ k, k < ops.size → isGen (cls i) = true → isGen (cls k) = true → L listed k → k < i := fun k hk g1 g2 hl => by
      rcases Nat.lt_trichotomy k i with h | h | h
      · exact h
      · exact absurd (h ▸ hl) R.not
      · have := (F.checked R.at_ (Array.getElem?_eq_getElem hk)).2.2.2 g1 g2 h
        exact absurd hl (R.post k this)
    by_cases hpt : ∃ j1 b, restr ρ (Hs i).next id = some j1 ∧ h.get id = some b
    · obtain ⟨j1, b, e1, e2⟩ := hpt
      have hm := hst.mono id j1 e1
      have : j1 = j := by rw [join_right hm] at hj; cases hj; rfl
      subst this
      obtain ⟨p1, p2⟩ := hpart id j1 b e1 e2
      have hlt := (restr_some e1).1
      have hG : (joinH (restr ρ (Hs i).next) G h h').get id = h'.get id := by rw [joinH_get hlt2, joinF_part (by omega) e1 e2]
      refine ⟨i + 1, by omega, Nat.lt_of_lt_of_le hlt (F.next i hil), hG.trans p1, fun b' hb' => ?_, fun k hk hgk hl => ?_, fun k hk hgk hki hl => ?_, .inr ⟨i, hil, .inl rfl, rfl, .inl p2⟩⟩
      · rw [hG] at hb'
        exact (hs'.live id b' j1 hb' hm).mono hsubJ rfl
      · rcases hl with rfl | hl
        · left; omega
        · left; have := hgen_lt k hk p2 hgk hl; omega
      · left
        rcases Nat.lt_trichotomy k i with hh | hh | hh
        · have := (F.checked (Array.getElem?_eq_getElem hk) R.at_).2.2.2 hgk p2 hh
          exact absurd (R.pre k this) hl
        · exact absurd hh hki
        · omega
    · by_cases hnw : (Hs i).next ≤ id ∧ id < (Hs (i + 1)).next
      · obtain ⟨n1, n2⟩ := hnw
        obtain ⟨p1, p2⟩ := hnew id n1 n2
        have hρ := hnewer id (by omega) (by omega)
        have hm : ρ' id = some j := by
          cases e : ρ' id with
          | none => rw [join_left e, hρ] at hj; cases hj
          | some j' => rw [join_right e] at hj; exact hj
        have hG : (joinH (restr ρ (Hs i).next) G h h').get id = h'.get id := by rw [joinH_get hlt2, joinF_new (by omega) (by omega)]
        refine ⟨i + 1, by omega, n2, hG.trans p1, fun b' hb' => ?_, fun k hk hgk hl => ?_, fun k hk hgk hki hl => ?_, .inr ⟨i, hil, .inl rfl, rfl, .inr n1⟩⟩
        · rw [hG] at hb'
          exact (hs'.live id b' j hb' hm).mono hsubJ rfl
        · rcases hl with rfl | hl
          · left; omega
          · rcases Nat.lt_or_ge i k with hh | hh
            · right; exact p2 k hk hh hgk hl
            · left; omega
        · rcases Nat.lt_trichotomy k i with hh | hh | hh
          · right; exact Nat.le_trans (F.next_le (show k + 1 ≤ i by omega) (by omega)) n1
          · exact absurd hh hki
          · left; omega
      · -- as it was
        have hρ' : ∀ j', ρ' id = some j' → restr ρ (Hs i).next id = some j' := fun j' e => by
          cases e1 : restr ρ (Hs i).next id with
          | some j1 => have := hst.mono id j1 e1; rw [e] at this; exact this.symm
          | none =>
            exfalso
            have h1 := (hst.fresh id j' e e1).1
            have h2 := hs'.dom id j' e
            exact hnw ⟨by omega, by omega⟩
        have hρ : ρ id = some j := by
          cases e : ρ' id with
          | none => rw [join_left e] at hj; exact hj
          | some j' => rw [join_right e] at hj; cases hj; exact (restr_some (hρ' j e)).2
        have hc : restr ρ (Hs i).next id = none ∨ h.get id = none := by
          cases e1 : restr ρ (Hs i).next id with
          | none => exact .inl rfl
          | some j1 =>
            cases e2 : h.get id with
            | none => exact .inr rfl
            | some b => exact absurd ⟨j1, b, e1, e2⟩ hpt
        have hG : (joinH (restr ρ (Hs i).next) G h h').get id = G.get id := by
          rw [joinH_get hlt2]
          by_cases hlt : id < h.next
          · exact joinF_rest hlt hc
          · exact joinF_far (by omega) (by rcases Nat.lt_or_ge id h'.next with hh | hh; (exact absurd ⟨by omega, by omega⟩ hnw); exact hh)
        obtain ⟨q, q1, q2, q3, q4, q5, q6, q7⟩ := I.blk id j hρ
        refine ⟨q, q1, q2, hG.trans q3, fun b hb => ?_, fun k hk hgk hl => ?_, fun k hk hgk _ hl => q6 k hk hgk hl, ?_⟩
        · rw [hG] at hb
          exact (q4 b hb).mono (restr_le t1.mono (Nat.le_refl _)) (t3 id j b hρ hb hc)
        · rcases hl with rfl | hl
          · by_cases hlt : id < (Hs k).next
            · right
              have hr := restr_mk hlt hρ
              have hnone : h.get id = none := by rcases hc with e | e; (rw [hr] at e; cases e); exact e
              have hd := hrest hgk id j hρ hlt hnone
              rw [hd]
              exact hdead hgk id j hr hd
            · left
              rcases I.dom id j hρ with h0 | ⟨k', k1, k2, k3, k4⟩
              · have := I.dom0 id j h0
                have := F.next_le (Nat.zero_le k) (by omega)
                omega
              · have hne : k' ≠ k := fun e => R.not (e ▸ k2)
                have hgt : k < k' := by
                  rcases Nat.lt_or_gt_of_ne hne with hh | hh
                  · have := F.next_le (show k' + 1 ≤ k by omega) (by omega); omega
                  · exact hh
                rcases Nat.lt_or_ge k' q with hh | hh
                · omega
                · have := F.next_le hh (by omega); omega
          · exact q5 k hk hgk hl
        · rcases q7 with hh | ⟨k, k1, k2, k3, k4⟩
          · exact .inl hh
          · exact .inr ⟨k, k1, .inr k2, k3, k4⟩

theorem Sim.empty {ρ : Ren} {w : World} {m : Nat} (hd : ∀ id j, ρ id = some j → id < m) (hg : ∀ g, g < P.globals.size → ∃ j, ρ g = some j ∧ j.at_ = ⟨g, 0, none⟩) : Sim P ρ ⟨m, .nil⟩ w :=
  ⟨hd, fun id b j h => by simp [Heap.get, Tr.get_nil] at h, fun id1 id2 b1 b2 i1 i2 h => by simp [Heap.get, Tr.get_nil] at h, hg⟩

theorem Inv.globR (F : Facts P n ops As Hs vs cls) (I : Inv P n ops As Hs cls d0 ρ0 w0 listed a w ρ G) {i : Nat} (hi : i ≤ ops.size) : ∀ g, g < P.globals.size → ∃ j, restr ρ (Hs i).next g = some j ∧ j.at_ = ⟨g, 0, none⟩ := fun g hg => by
  obtain ⟨j, hj, e⟩ := I.glob0 g hg
  exact ⟨j, restr_mk (Nat.lt_of_lt_of_le (I.dom0 g j hj) (F.next_le (Nat.zero_le _) hi)) (I.st.mono g j hj), e⟩

/-- What is known of a block when an operation that acts on memory is ready is what the text's order says. -/
theorem Inv.now (F : Facts P n ops As Hs vs cls) (I : Inv P n ops As Hs cls d0 ρ0 w0 listed a w ρ G) {i : Nat} {o : Oper} (R : Rdy ops listed i o) (hg : isGen (cls i) = true) {id : Nat} {j : Info} (hid : id < (Hs i).next) (hj : ρ id = some j) :
    G.get id = (Hs i).get id ∧ ∀ b, G.get id = some b → BlkRel P (restr ρ (Hs i).next) j w b := by
  have hil : i < ops.size := (Array.getElem?_eq_some_iff.1 R.at_).1
  obtain ⟨q, q1, q2, q3, q4, q5, q6, q7⟩ := I.blk id j hj
  have hqi : q ≤ i := by
    rcases q7 with rfl | ⟨k, k1, k2, rfl, k4⟩
    · omega
    · have hne : k ≠ i := fun e => R.not (e ▸ k2)
      rcases Nat.lt_or_gt_of_ne hne with hh | hh
      · omega
      · exfalso
        rcases k4 with k4 | k4
        · have := (F.checked R.at_ (Array.getElem?_eq_getElem k1)).2.2.2 hg k4 hh
          exact R.post k this k2
        · have := F.next_le (show i ≤ k by omega) (by omega); omega
  have chain : ∀ r, q ≤ r → r ≤ i → (Hs r).get id = (Hs q).get id := by
    intro r
    induction r with
    | zero =>
      intro h1 _; obtain rfl : q = 0 := by omega
      rfl
    | succ r ih =>
      intro h1 h2
      by_cases e : q = r + 1
      · subst e; rfl
      · have hr : r < ops.size := by omega
        rw [← ih (by omega) (by omega)]
        cases hgr : isGen (cls r) with
        | false => exact F.quiet (Array.getElem?_eq_getElem hr) hgr (Nat.lt_of_lt_of_le q2 (F.next_le (by omega) (by omega)))
        | true =>
          have := (F.checked (Array.getElem?_eq_getElem hr) R.at_).2.2.2 hgr hg (by omega)
          rcases q5 r hr hgr (R.pre r this) with hh | hh
          · omega
          · exact hh
  refine ⟨by rw [q3, chain i hqi (Nat.le_refl _)], fun b hb => (q4 b hb).mono (restr_le (.refl ρ) (F.next_le hqi (by omega))) rfl⟩

theorem Inv.run (F : Facts P n ops As Hs vs cls) (I : Inv P n ops As Hs cls d0 ρ0 w0 listed a w ρ G) {i : Nat} {o : Oper} (R : Rdy ops listed i o) {K : Act → World → Prop} {Q : Exit → Act → World → Prop}
    (hK : ∀ a' w' ρ' G', Inv P n ops As Hs cls d0 ρ0 w0 (listed.setIfInBounds i true) a' w' ρ' G' → K a' w') (z : Rd) : wpOpIn (fen z) 0 P ops Q i K a w := by
  have hil : i < ops.size := (Array.getElem?_eq_some_iff.1 R.at_).1
  have hwant : ∀ b, wantedA n ops (As i) o = some b → Region.wanted o (yielded ops a.tmps) = b := fun b hb => by
    unfold wantedA at hb
    split at hb
    · rename_i hgd; cases hb; simp [Region.wanted, hgd]
    · rename_i j want hgd
      split at hb
      · rename_i t hsl
        split at hb
        · rename_i htn
          split at hb
          · rename_i b0 eb
            cases hb
            have hv := I.slot F R htn (by unfold looks; rw [hgd]; simp [hsl])
            rw [eb] at hv
            have hlt : t < a.tmps.size := by rw [I.tsize]; exact htn
            have hcb : a.tmps[t]? = some (.bool b0) := by
              rw [Array.getD_eq_getD_getElem?, Array.getElem?_eq_getElem hlt] at hv
              rw [Array.getElem?_eq_getElem hlt]
              simp only [Option.getD_some] at hv
              rw [hv.plain_eq rfl]
            have hy : yielded ops a.tmps j = some b0 := by
              unfold yielded
              unfold guardSlot at hsl
              rw [hsl]
              simp [hcb]
            simp [Region.wanted, hgd, hy]
          · rename_i vs0 eb
            cases hb
            have hv := I.slot F R htn (by unfold looks; rw [hgd]; simp [hsl])
            rw [eb] at hv
            obtain ⟨vs1, e1, _⟩ := hv.tuple_inv
            have hlt : t < a.tmps.size := by rw [I.tsize]; exact htn
            have hcb : a.tmps[t]? = some (.tuple vs1) := by
              rw [Array.getD_eq_getD_getElem?, Array.getElem?_eq_getElem hlt] at e1
              rw [Array.getElem?_eq_getElem hlt]
              simpa using e1
            have hy : yielded ops a.tmps j = none := by
              unfold yielded
              unfold guardSlot at hsl
              rw [hsl]
              simp [hcb]
            simp [Region.wanted, hgd, hy]
          · cases hb
        · cases hb
      · cases hb
  unfold wpOpIn
  simp only [R.at_]
  rcases F.step i o R.at_ with ⟨hw, hv, hH, hc⟩ | ⟨hw, hstep⟩
  · rw [if_neg (by rw [hwant false hw]; simp)]
    exact ⟨fun _ _ => trivial, hK _ _ _ _ (I.still F R (by rw [hc]; rfl) (by rw [hv]; exact .closed (by simp [undef, closedV])))⟩
  · rw [if_pos (hwant true hw)]
    have hops := I.operands F R
    have hglob := I.globR F (Nat.le_of_lt hil)
    have hemp : Sim P (restr ρ (Hs i).next) ⟨(Hs i).next, .nil⟩ w := Sim.empty (fun id j h => (restr_some h).1) hglob
    have hnone : ∀ id, Heap.get ⟨(Hs i).next, .nil⟩ id = none := fun id => by simp [Heap.get, Tr.get_nil]
    cases hc : cls i with
    | pure =>
      rw [hc] at hstep
      obtain ⟨hH, hdo⟩ := hstep
      refine hdo ⟨(Hs i).next, .nil⟩ (restr ρ (Hs i).next) w a hemp hops K Q (fun v' ρ' w' hv hst hs' => ?_) z
      obtain ⟨ρ2, G2, hI⟩ := I.frame F R (h := ⟨(Hs i).next, .nil⟩) (h' := ⟨(Hs i).next, .nil⟩) rfl (by rw [hH]) hemp (fun id j b _ h => by rw [hnone] at h; cases h) (fun id j b _ h => by rw [hnone] at h; cases h)
        (fun id h1 h2 => by rw [hH] at h2; omega) (fun hg => by rw [hc] at hg; cases hg) hv hst hs' (fun hg => by rw [hc] at hg; cases hg)
      exact hK _ _ _ _ hI
    | alloc b =>
      rw [hc] at hstep
      obtain ⟨hH, hdo, hun⟩ := hstep
      refine hdo ⟨(Hs i).next, .nil⟩ rfl (restr ρ (Hs i).next) w a hemp hops K Q (fun v' ρ' w' hv hst hs' => ?_) z
      obtain ⟨ρ2, G2, hI⟩ := I.frame F R (h := ⟨(Hs i).next, .nil⟩) (h' := Heap.push ⟨(Hs i).next, .nil⟩ b) rfl (by rw [hH]; rfl) hemp (fun id j b _ h => by rw [hnone] at h; cases h) (fun id j b _ h => by rw [hnone] at h; cases h)
        (fun id h1 h2 => by
          rw [hH] at h2
          simp only [Heap.next_push] at h2
          obtain rfl : id = (Hs i).next := by omega
          refine ⟨by rw [hH, Heap.get_push, Heap.get_push, if_pos rfl, if_pos rfl], fun k hk hik hgk hl => ?_⟩
          refine hun k hk hik hgk ?_
          cases ho : ordered (masks ops.toList []) i k with
          | false => rfl
          | true => exact absurd hl (R.post k ho))
        (fun hg => by rw [hc] at hg; cases hg) hv hst hs' (fun hg => by rw [hc] at hg; cases hg)
      exact hK _ _ _ _ hI
    | gen =>
      rw [hc] at hstep
      have hgi : isGen (cls i) = true := by rw [hc]; rfl
      have hsim : Sim P (restr ρ (Hs i).next) (Hs i) w := by
        refine ⟨fun id j h => (restr_some h).1, fun id b j hb hj => ?_, fun id1 id2 b1 b2 i1 i2 h1 h2 h3 h4 h5 h6 => ?_, hglob⟩
        · obtain ⟨e1, e2⟩ := restr_some hj
          obtain ⟨n1, n2⟩ := I.now F R hgi e1 e2
          exact n2 b (by rw [n1]; exact hb)
        · obtain ⟨e1, e2⟩ := restr_some h3
          obtain ⟨e3, e4⟩ := restr_some h4
          exact I.sim.sep id1 id2 b1 b2 i1 i2 (by rw [(I.now F R hgi e1 e2).1]; exact h1) (by rw [(I.now F R hgi e3 e4).1]; exact h2) e2 e4 h5 h6
      refine hstep (restr ρ (Hs i).next) w a hsim hops K Q (fun v' ρ' w' hv hst hs' => ?_) z
      obtain ⟨ρ2, G2, hI⟩ := I.frame F R (h := Hs i) (h' := Hs (i + 1)) rfl rfl hsim
        (fun id j b hj hb => by obtain ⟨e1, e2⟩ := restr_some hj; rw [(I.now F R hgi e1 e2).1]; exact hb)
        (fun id j b _ _ => ⟨rfl, hgi⟩)
        (fun id h1 h2 => ⟨rfl, fun k hk hik hgk hl => by
          have := (F.checked R.at_ (Array.getElem?_eq_getElem hk)).2.2.2 hgi hgk hik
          exact absurd hl (R.post k this)⟩)
        (fun _ id j _ _ h => h) hv hst hs' (fun _ id j hj hd => hst.dead id j hj hd)
      exact hK _ _ _ _ hI
    | load =>
      rw [hc] at hstep
      obtain ⟨hH, t, x, ad, hop, ex, hl, hun⟩ := hstep
      have hgi : isGen (cls i) = false := by rw [hc]; rfl
      have hx := hops x (by rw [hop]; simp [Op.operands])
      rw [ex] at hx
      obtain ⟨inf, g1, g2, g3⟩ := hx.ptr_inv
      obtain ⟨id, off, sp⟩ := ad
      simp only at g1 g2 g3
      subst g2
      obtain ⟨hid, hj⟩ := restr_some g1
      obtain ⟨q, q1, q2, q3, q4, q5, q6, q7⟩ := I.blk id inf hj
      have hcong : ∀ r r' : Nat, (Hs r).get id = (Hs r').get id → aload P t ⟨id, off, none⟩ (Hs r) = aload P t ⟨id, off, none⟩ (Hs r') := fun r r' e => by
        unfold aload; rw [e]
      have hunord : ∀ k, k < ops.size → isGen (cls k) = true → (i ≤ k → L listed k) → (k < i → ¬ L listed k) → ordered (masks ops.toList []) i k = false ∧ ordered (masks ops.toList []) k i = false := fun k hk hgk h1 h2 => by
        refine ⟨?_, ?_⟩
        · cases ho : ordered (masks ops.toList []) i k with
          | false => rfl
          | true =>
            exfalso
            by_cases hik : i ≤ k
            · exact R.post k ho (h1 hik)
            · have := mask_lt F ho
              omega
        · cases ho : ordered (masks ops.toList []) k i with
          | false => rfl
          | true =>
            exfalso
            have hle := mask_lt F ho
            have hp := R.pre k ho
            rcases Nat.lt_or_ge k i with hh | hh
            · exact h2 hh hp
            · obtain rfl : k = i := by omega
              exact R.not hp
      -- the value that is loaded is the same, wherever its block stands now
      have hload : aload P t ⟨id, off, none⟩ (Hs q) = some (vs i) ∧ (q ≤ i ∨ belowV (Hs i).next 6 (vs i) = true) := by
        rcases Nat.le_total q i with hqi | hqi
        · refine ⟨?_, .inl hqi⟩
          have : ∀ m r, r + m = i → q ≤ r → aload P t ⟨id, off, none⟩ (Hs r) = some (vs i) := by
            intro m
            induction m with
            | zero =>
              intro r hr _; obtain rfl : r = i := by omega
              exact hl
            | succ m ih =>
              intro r hr hq
              have hrl : r < ops.size := by omega
              have hnx := ih (r + 1) (by omega) (by omega)
              cases hgr : isGen (cls r) with
              | false =>
                rw [← hcong (r + 1) r (F.quiet (Array.getElem?_eq_getElem hrl) hgr (Nat.lt_of_lt_of_le q2 (F.next_le hq (by omega))))]
                exact hnx
              | true =>
                by_cases hlr : L listed r
                · rcases q5 r hrl hgr hlr with hh | hh
                  · omega
                  · rw [← hcong (r + 1) r hh]; exact hnx
                · obtain ⟨u1, u2⟩ := hunord r hrl hgr (by omega) (fun _ => hlr)
                  exact (hun r hrl hgr u1 u2).1
          exact this (i - q) q (by omega) (Nat.le_refl _)
        · by_cases hqe : q = i
          · subst hqe; exact ⟨hl, .inl (Nat.le_refl _)⟩
          have hgenL : ∀ r, r < ops.size → i ≤ r → r < q → isGen (cls r) = true → L listed r := fun r hr hir hrq hgr => by
            by_cases hlr : L listed r
            · exact hlr
            · exfalso
              rcases q6 r hr hgr hlr with hh | hh
              · omega
              · have := F.next_le (show i ≤ r + 1 by omega) (by omega); omega
          have key : ∀ m, i + m ≤ q → aload P t ⟨id, off, none⟩ (Hs (i + m)) = some (vs i) := by
            intro m
            induction m with
            | zero => intro _; exact hl
            | succ m ih =>
              intro hm
              have hrl : i + m < ops.size := by omega
              have hpv := ih (by omega)
              cases hgr : isGen (cls (i + m)) with
              | false =>
                have := hcong (i + m + 1) (i + m) (F.quiet (Array.getElem?_eq_getElem hrl) hgr (Nat.lt_of_lt_of_le hid (F.next_le (by omega) (by omega))))
                rw [show i + (m + 1) = i + m + 1 by omega, this]; exact hpv
              | true =>
                obtain ⟨u1, u2⟩ := hunord (i + m) hrl hgr (fun _ => hgenL (i + m) hrl (by omega) (by omega) hgr) (by omega)
                exact (hun (i + m) hrl hgr u1 u2).2.1
          refine ⟨by have := key (q - i) (by omega); rwa [show i + (q - i) = q by omega] at this, .inr ?_⟩
          -- an operation that acts on memory has run ahead
          rcases q7 with rfl | ⟨k, k1, k2, rfl, k4⟩
          · omega
          · have hne : k ≠ i := fun e => R.not (e ▸ k2)
            rcases k4 with k4 | k4
            · obtain ⟨u1, u2⟩ := hunord k k1 k4 (fun _ => k2) (by omega)
              exact (hun k k1 k4 u1 u2).2.2
            · exfalso
              have := F.next_le (show i ≤ k by omega) (by omega); omega
      obtain ⟨hla, hbel⟩ := hload
      obtain ⟨c, e, ro, hgq⟩ := aload_cells hla
      have hgG : G.get id = some (.cells c e ro) := by rw [q3]; exact hgq
      obtain ⟨v', r1, r2⟩ := run_aload (H := Hs q) (restr_mk q2 hj) hgq (q4 _ hgG) hla
      have hv' : V (restr ρ (Hs (i + 1)).next) (vs i) v' := by
        rw [hH]
        rcases hbel with hh | hh
        · exact r2.mono (restr_le (.refl ρ) (F.next_le hh (by omega)))
        · exact belowV_V 6 (r2.mono (restr_sub ρ _)) hh
      have hrun : (execOp a.eval o).run P w = .ok (.value v') w := by
        unfold execOp
        simp only [hop, Instr.loadAt, g3, Instr.sureAddr, Sem.run_bind, Sem.run_pure, Result.andThen_ok, r1]
      refine ⟨fun _ _ => trivial, ?_⟩
      rw [semAt_of hrun (by simp) _]
      exact hK _ _ _ _ (I.still F R hgi hv')
  where
  mask_lt (F : Facts P n ops As Hs vs cls) {i j : Nat} (h : ordered (masks ops.toList []) i j = true) : i ≤ j :=
    ordered_spec (L := fun k => k ≤ j) (fun k hk o ho e he hb => by have := (F.checked ho ho).1 e he hb; omega) h (Nat.le_refl _)

theorem ready_of (F : Facts P n ops As Hs vs cls) {i : Nat} (hcl : Closed ops (L listed)) (hsz : listed.size = ops.size) (hr : i ∈ Region.ready .any ops listed) : ∃ o, Rdy ops listed i o := by
  obtain ⟨h0, o, ho, hall⟩ := mem_ready.1 hr
  have hil : i < ops.size := (Array.getElem?_eq_some_iff.1 ho).1
  have hnot : ¬ L listed i := fun h => by
    unfold L at h
    rw [Array.getD_eq_getD_getElem?, Array.getElem?_eq_getElem (by rw [hsz]; exact hil)] at h h0
    simp only [Option.getD_some] at h h0
    rw [h] at h0; cases h0
  -- the set with the new one is closed too
  have hcl' : Closed ops (fun k => k = i ∨ L listed k) := fun k hk ok hok e he hb => by
    rcases hk with rfl | hk
    · rw [ho] at hok; cases hok
      exact .inr (hall e he hb)
    · exact .inr (hcl k hk ok hok e he hb)
  refine ⟨o, ho, hnot, fun k hk => ?_, fun k hk hl => hnot (ordered_spec hcl hk hl), fun e he hb => hall e he hb⟩
  have hk2 : k = i ∨ L listed k := ordered_spec hcl' hk (.inl rfl)
  rcases hk2 with rfl | h
  · have := ordered_lt (fun i o ho => (F.checked ho ho).1) hk
    omega
  · exact h

/-- If nothing is ready, all is done. -/
theorem all_done (F : Facts P n ops As Hs vs cls) (hsz : listed.size = ops.size) (hr : Region.ready .any ops listed = []) : ∀ i, i < ops.size → L listed i := by
  intro i
  induction i using Nat.strongRecOn with
  | _ i ih =>
    intro hi
    by_cases hl : L listed i
    · exact hl
    · exfalso
      have : i ∈ Region.ready .any ops listed := by
        refine mem_ready.2 ⟨?_, ops[i], Array.getElem?_eq_getElem hi, fun e he hb => ?_⟩
        · unfold L at hl
          rw [Array.getD_eq_getD_getElem?, Array.getElem?_eq_getElem (by rw [hsz]; exact hi)] at hl ⊢
          simpa using hl
        · have := (F.checked (Array.getElem?_eq_getElem hi) (Array.getElem?_eq_getElem hi)).1 e he hb
          exact ih e.on this (by omega)
      rw [hr] at this; cases this

noncomputable def left (listed : Array Bool) : Nat := (List.range listed.size).countP fun i => !(listed.getD i false)

theorem left_set {i : Nat} (hi : i < listed.size) (hn : ¬ L listed i) : left (listed.setIfInBounds i true) + 1 = left listed := by
  unfold left
  rw [Array.size_setIfInBounds]
  unfold L at hn
  have hn' : listed.getD i false = false := by simpa using hn
  have key : ∀ (l : List Nat), l.Nodup → i ∈ l → (l.countP fun k => !((listed.setIfInBounds i true).getD k false)) + 1 = l.countP fun k => !(listed.getD k false) := by
    intro l
    induction l with
    | nil => intro _ h; cases h
    | cons x l ih =>
      intro hnd hm
      rw [List.nodup_cons] at hnd
      have hsame : ∀ k, k ≠ i → (listed.setIfInBounds i true).getD k false = listed.getD k false := fun k hk => by
        rw [Array.getD_eq_getD_getElem?, Array.getElem?_setIfInBounds_ne (by omega), ← Array.getD_eq_getD_getElem?]
      by_cases hx : x = i
      · subst hx
        have h1 : (listed.setIfInBounds x true).getD x false = true := by simp [Array.getD_eq_getD_getElem?, hi]
        have h2 : (l.countP fun k => !((listed.setIfInBounds x true).getD k false)) = l.countP fun k => !(listed.getD k false) := by
          apply List.countP_congr
          intro k hk
          rw [hsame k (fun e => hnd.1 (e ▸ hk))]
        rw [List.countP_cons, List.countP_cons, h1, h2, hn']
        simp
      · rw [List.countP_cons, List.countP_cons, hsame x hx]
        have := ih hnd.2 (by cases hm with | head => exact absurd rfl hx | tail _ h => exact h)
        omega
  exact key _ List.nodup_range (List.mem_range.2 hi)

theorem left_zero (h : left listed = 0) (hsz : listed.size = ops.size) : Region.ready .any ops listed = [] := by
  cases hr : Region.ready .any ops listed with
  | nil => rfl
  | cons i l =>
    exfalso
    have hm : i ∈ Region.ready .any ops listed := by rw [hr]; simp
    obtain ⟨h0, o, ho, _⟩ := mem_ready.1 hm
    have hil : i < listed.size := by rw [hsz]; exact (Array.getElem?_eq_some_iff.1 ho).1
    unfold left at h
    rw [List.countP_eq_zero] at h
    have := h i (List.mem_range.2 hil)
    rw [Array.getD_eq_getD_getElem?, Array.getElem?_eq_getElem hil] at this h0
    simp only [Option.getD_some] at this h0
    simp [h0] at this

theorem Inv.any (F : Facts P n ops As Hs vs cls) (z : Rd) {Q : Exit → Act → World → Prop}
    (hQ : ∀ listed a w ρ G, Inv P n ops As Hs cls d0 ρ0 w0 listed a w ρ G → (∀ i, i < ops.size → L listed i) → Q .normal a w) :
    ∀ (fuel : Nat) (listed : Array Bool) (a : Act) (w : World) (ρ : Ren) (G : Heap), left listed = fuel → Inv P n ops As Hs cls d0 ρ0 w0 listed a w ρ G → wpAnyIn (fen z) 0 P .any ops Q fuel listed a w := by
  intro fuel
  induction fuel with
  | zero =>
    intro listed a w ρ G hl I
    have hr := left_zero hl I.size
    exact ⟨hr, hQ listed a w ρ G I (all_done F I.size hr)⟩
  | succ fuel ih =>
    intro listed a w ρ G hl I
    refine ⟨fun hr => hQ listed a w ρ G I (all_done F I.size hr), fun i hi => ?_⟩
    obtain ⟨o, R⟩ := ready_of F I.closed I.size hi
    have hil : i < listed.size := by rw [I.size]; exact (Array.getElem?_eq_some_iff.1 R.at_).1
    exact I.run F R (fun a' w' ρ' G' I' => ih _ a' w' ρ' G' (by have := left_set hil R.not; omega) I') z

/-- At the end all is as the text's order says. -/
theorem Inv.done (F : Facts P n ops As Hs vs cls) (I : Inv P n ops As Hs cls d0 ρ0 w0 listed a w ρ G) (hall : ∀ i, i < ops.size → L listed i) :
    St ρ0 (Hs 0) w0 ρ (Hs ops.size) w ∧ Sim P ρ (Hs ops.size) w ∧ EnvRel ρ n (As ops.size) a ∧ a.defers = d0 := by
  have hget : ∀ id j, ρ id = some j → G.get id = (Hs ops.size).get id ∧ id < (Hs ops.size).next := fun id j hj => by
    obtain ⟨q, q1, q2, q3, q4, q5, q6, q7⟩ := I.blk id j hj
    have chain : ∀ m, q + m ≤ ops.size → (Hs (q + m)).get id = (Hs q).get id := by
      intro m
      induction m with
      | zero => intro _; rfl
      | succ m ih =>
        intro hm
        have hr : q + m < ops.size := by omega
        rw [← ih (by omega), show q + (m + 1) = q + m + 1 by omega]
        cases hgr : isGen (cls (q + m)) with
        | false => exact F.quiet (Array.getElem?_eq_getElem hr) hgr (Nat.lt_of_lt_of_le q2 (F.next_le (by omega) (by omega)))
        | true =>
          rcases q5 (q + m) hr hgr (hall _ hr) with hh | hh
          · omega
          · exact hh
    have := chain (ops.size - q) (by omega)
    rw [show q + (ops.size - q) = ops.size by omega] at this
    exact ⟨by rw [q3, this], Nat.lt_of_lt_of_le q2 (F.next_le q1 (Nat.le_refl _))⟩
  refine ⟨St0.full ⟨I.st.mono, F.next_le (Nat.zero_le _) (Nat.le_refl _), fun id i h h' => ?_, fun id i b b' h h1 h2 h3 => ?_, I.st.fresh, I.st.os, I.st.tape, I.st.output, I.st.size, I.st.frame⟩ (fun id i h h' => ?_),
    ⟨fun id j h => (hget id j h).2, fun id b j hb hj => I.sim.live id b j (by rw [(hget id j hj).1]; exact hb) hj, fun id1 id2 b1 b2 i1 i2 h1 h2 h3 h4 => I.sim.sep id1 id2 b1 b2 i1 i2 (by rw [(hget id1 i1 h3).1]; exact h1) (by rw [(hget id2 i2 h4).1]; exact h2) h3 h4, I.sim.glob⟩,
    ⟨I.tsize, fun t ht => ?_⟩, I.defers⟩
  · rw [← (hget id i (I.st.mono id i h)).1]; exact I.st.dead id i h h'
  · rw [← (hget id i (I.st.mono id i h)).1] at h3; exact I.st.ro id i b b' h h1 h2 h3
  · rcases I.dom id i h with h0 | ⟨k, k1, k2, k3, k4⟩
    · rw [h'] at h0; cases h0
    · exact Nat.le_trans (F.next_le (Nat.zero_le _) (by omega)) k3
  · obtain ⟨r, r1, r2, r3, r4, r5⟩ := I.tmps t ht
    have : As ops.size t = As r t := env_same F r1 (Nat.le_refl _) (fun k o hk1 hk2 hk hd => by have := r3 k o hk hd (hall k hk2); omega)
    rw [this]
    exact r2.mono (restr_sub ρ _)

end

theorem awp_draw {id : Nat} {Q : Ex → Env → Heap → Prop} (hm : P.follows .mixedOrders = true) (F : Facts P n ops As Hs vs cls) (hQ : Q .normal (As ops.size) (Hs ops.size)) : AWp P n (.region id ops true) Q (As 0) (Hs 0) := by
  intro z ρ w a hs he
  refine wpIn_region_any hm ?_
  obtain ⟨d1, d2⟩ := hs.drew
  have hL0 : ∀ i, ¬ L (Array.replicate ops.size false) i := fun i h => by
    unfold L at h
    rw [Array.getD_eq_getD_getElem?, Array.getElem?_replicate] at h
    split at h <;> simp at h
  have I0 : Inv P n ops As Hs cls a.defers ρ w.drew (Array.replicate ops.size false) a w.drew ρ (Hs 0) := by
    refine ⟨by simp, fun i hi => absurd hi (hL0 i), (St.refl ρ (Hs 0) w.drew).to0, d2, fun id j h => .inl h, hs.dom, hs.glob, fun id j hj => ⟨0, Nat.zero_le _, hs.dom id j hj, rfl, fun b hb => ?_, fun k _ _ hl => absurd hl (hL0 k), fun k _ _ _ => .inl (Nat.zero_le _), .inl rfl⟩, rfl, he.size, fun t ht => ⟨0, Nat.zero_le _, ?_, fun k o _ _ hl => absurd hl (hL0 k), fun k o _ _ _ => Nat.zero_le _, .inl rfl⟩⟩
    · exact (d2.live id b j hb hj).mono (fun x y h => restr_mk (hs.dom x y h) h) rfl
    · exact (he.tmps t ht).mono (fun x y h => restr_mk (hs.dom x y h) h)
  have hleft : left (Array.replicate ops.size false) = ops.size := by
    unfold left
    have : ∀ i ∈ List.range (Array.replicate ops.size false).size, (!(Array.replicate ops.size false).getD i false) = true := fun i _ => by
      have := hL0 i
      unfold L at this
      simpa using this
    rw [List.countP_eq_length.2 this]
    simp
  refine Inv.any F z (fun listed a' w' ρ' G' I hall => ?_) ops.size _ a w.drew ρ (Hs 0) hleft I0
  obtain ⟨t1, t2, t3, t4⟩ := I.done F hall
  exact ⟨.normal, ρ', _, _, hQ, d1.trans t1, t2, ⟨t3, he.fr.step (d1.trans t1) t4⟩, trivial⟩

end
end Go.Ab
/- Loops and scopes, round by round. -/
set_option linter.unusedVariables false
namespace Go.Ab
section
variable {P : Program} {n : Nat} {Q : Ex → Env → Heap → Prop} {A : Env} {H : Heap}

theorem sR_scope {b : Frame} {a : Act} {k : List Item} {cs : List Frame} {w : World} {c : Code} : step P (lone (b.atR a (.code (.scope c) :: k)) cs w) = .next (lone (b.atR a (.code c :: .inScope c :: k)) cs w) :=
  step_lone_go (by simp [stepG, stepG.exec, Frame.atR])
theorem sR_inScope {b : Frame} {a : Act} {k : List Item} {cs : List Frame} {w : World} {c : Code} : step P (lone (b.atR a (.inScope c :: k)) cs w) = .next (lone (b.atR a k) cs w) :=
  step_lone_go (by simp [stepG, stepG.exec, Frame.atR])

/-- A loop's round, and all that follow. -/
noncomputable def LoopWp (P : Program) (n : Nat) (c : Code) (Q : Ex → Env → Heap → Prop) (A : Env) (H : Heap) : Prop :=
  ∀ z ρ w a, Sim P ρ H w → EnvFr z ρ H w n A a → ∀ (b : Frame) (k : List Item) (cs : List Frame), b.roundOf = (fen z).round → (fen z).fn b.fn → (fen z).room (cs.length + 1 + 0) →
    ∃ e a' w', Lift P n z ρ H w Q e a' w' ∧ ArrivesIn (Machine.fenced P (fen z)) P (lone (b.atR a (.code c :: .inLoop c :: k)) cs w) b k cs e a' w'

theorem awp_of_loop {c : Code} (h : LoopWp P n c Q A H) : AWp P n (.loop c) Q A H := fun z ρ w a hs he b k cs hro hb hrm => by
  obtain ⟨e, a', w', hl, harr⟩ := h z ρ w a hs he b k cs hro hb hrm
  exact ⟨e, a', w', hl, .of_steps (.one (fenced_calm hb hrm rfl) stepR_loop) harr⟩

theorem loop_step {c : Code} (h : AWp P n c (Then (LoopWp P n c Q) Q) A H) : LoopWp P n c Q A H := fun z ρ w a hs he b k cs hro hb hrm => by
  obtain ⟨e, a2, w2, hl, harr⟩ := h z ρ w a hs he b (.inLoop c :: k) cs hro hb hrm
  obtain ⟨e', ρ2, A2, H2, hq, hst2, hs2, he2, hr⟩ := hl
  cases e' <;> cases e <;> simp only [ExRel] at hr
  case normal.normal =>
    obtain ⟨e3, a3, w3, hl3, harr3⟩ := hq z ρ2 w2 a2 hs2 he2 b k cs hro hb hrm
    exact ⟨e3, a3, w3, Lift.weaken hst2 hl3, .of_steps (StepsIn.trans harr (.one (fenced_calm hb hrm rfl) stepR_inLoop)) harr3⟩
  all_goals exact ⟨_, a2, w2, ⟨_, ρ2, A2, H2, hq, hst2, hs2, he2, by first | trivial | exact hr⟩, .pass (x := .inLoop c) rfl (fun _ _ => .inl (by simp)) harr⟩

/-- Code that runs inside a scope. -/
noncomputable def ScopeWp (P : Program) (n : Nat) (body c : Code) (Q : Ex → Env → Heap → Prop) (A : Env) (H : Heap) : Prop :=
  ∀ z ρ w a, Sim P ρ H w → EnvFr z ρ H w n A a → ∀ (b : Frame) (k : List Item) (cs : List Frame), b.roundOf = (fen z).round → (fen z).fn b.fn → (fen z).room (cs.length + 1 + 0) →
    ∃ e a' w', Lift P n z ρ H w Q e a' w' ∧ ArrivesIn (Machine.fenced P (fen z)) P (lone (b.atR a (.code c :: .inScope body :: k)) cs w) b k cs e a' w'

theorem awp_of_scope {c : Code} (h : ScopeWp P n c c Q A H) : AWp P n (.scope c) Q A H := fun z ρ w a hs he b k cs hro hb hrm => by
  obtain ⟨e, a', w', hl, harr⟩ := h z ρ w a hs he b k cs hro hb hrm
  exact ⟨e, a', w', hl, .of_steps (.one (fenced_calm hb hrm rfl) sR_scope) harr⟩

/-- A jump inside a scope goes on behind its label. -/
noncomputable def Jump (P : Program) (n : Nat) (body : Code) (Q : Ex → Env → Heap → Prop) : Ex → Env → Heap → Prop
  | .goto l, A, H => match findLabel body l with
    | some rest => ScopeWp P n body rest Q A H
    | none => Q (.goto l) A H
  | e, A, H => Q e A H

theorem scope_step {body c : Code} (h : AWp P n c (Jump P n body Q) A H) : ScopeWp P n body c Q A H := fun z ρ w a hs he b k cs hro hb hrm => by
  obtain ⟨e, a2, w2, hl, harr⟩ := h z ρ w a hs he b (.inScope body :: k) cs hro hb hrm
  obtain ⟨e', ρ2, A2, H2, hq, hst2, hs2, he2, hr⟩ := hl
  cases e' <;> cases e <;> simp only [ExRel] at hr
  case normal.normal => exact ⟨.normal, a2, w2, ⟨.normal, ρ2, A2, H2, hq, hst2, hs2, he2, trivial⟩, StepsIn.trans harr (.one (fenced_calm hb hrm rfl) sR_inScope)⟩
  case exit.exit i j =>
    subst hr
    exact ⟨.exit i, a2, w2, ⟨.exit i, ρ2, A2, H2, hq, hst2, hs2, he2, rfl⟩, fun k' hk => harr.1 k' (by simp [exitTo, hk]), fun hh hk => harr.2 hh (by simp [exitTo, hk])⟩
  case goto.goto i j =>
    subst hr
    simp only [Jump] at hq
    cases hf : findLabel body i with
    | none =>
      rw [hf] at hq
      exact ⟨.goto i, a2, w2, ⟨.goto i, ρ2, A2, H2, hq, hst2, hs2, he2, rfl⟩, fun k' hk => harr.1 k' (by simp [gotoIn, hf, hk]), fun hh hk => harr.2 hh (by simp [gotoIn, hf, hk])⟩
    | some rest =>
      rw [hf] at hq
      obtain ⟨e3, a3, w3, hl3, harr3⟩ := hq z ρ2 w2 a2 hs2 he2 b k cs hro hb hrm
      exact ⟨e3, a3, w3, Lift.weaken hst2 hl3, .of_steps (harr.1 _ (by simp [gotoIn, hf])) harr3⟩
  case ret.ret => exact ⟨.ret, a2, w2, ⟨.ret, ρ2, A2, H2, hq, hst2, hs2, he2, trivial⟩, harr⟩
  case panic.panic v ch => exact ⟨.panic ch, a2, w2, ⟨.panic v, ρ2, A2, H2, hq, hst2, hs2, he2, hr⟩, harr⟩
end
end Go.Ab
/- Loops over functions: rounds, yields, the statement. -/
set_option linter.unusedVariables false
namespace Go.Ab

/-- The temporaries of a round: those of the loop, with what is yielded in its parameters. -/
noncomputable def setPs (A : Env) (ps : List Nat) (vs : List Value) : Env := (ps.zip vs).foldl (fun A p => upd A p.1 p.2) A

theorem setPs_rel {ρ : Ren} {n : Nat} : ∀ (ps : List Nat) (A : Env) (tmps : Array Value) (vs vs' : List Value), VL ρ vs vs' → tmps.size = n → (∀ t, t < n → V ρ (A t) (tmps.getD t undef)) →
    ((ps.zip vs').foldl (fun t (p : Nat × Value) => t.setIfInBounds p.1 p.2) tmps).size = n ∧ ∀ t, t < n → V ρ (setPs A ps vs t) (((ps.zip vs').foldl (fun t (p : Nat × Value) => t.setIfInBounds p.1 p.2) tmps).getD t undef)
  | [], A, tmps, vs, vs', hv, hn, h => ⟨hn, h⟩
  | p :: ps, A, tmps, [], vs', hv, hn, h => by obtain rfl := hv.unnil; exact ⟨hn, h⟩
  | p :: ps, A, tmps, v :: vs, l, hv, hn, h => by
    obtain ⟨v', vs', rfl, h1, h2⟩ := hv.uncons
    refine setPs_rel ps (upd A p v) (tmps.setIfInBounds p v') vs vs' h2 (by simpa using hn) (fun t ht => ?_)
    by_cases e : t = p
    · subst e
      rw [upd_same, Array.getD_eq_getD_getElem?, Array.getElem?_setIfInBounds_self_of_lt (by omega)]
      exact h1
    · rw [upd_ne A v e, Array.getD_eq_getD_getElem?, Array.getElem?_setIfInBounds_ne (by omega), ← Array.getD_eq_getD_getElem?]
      exact h t ht

section
variable {P : Program} {n : Nat} {Q : Ex → Env → Heap → Prop} {A : Env} {H : Heap}

theorem St.putBoth {ρ ρ' : Ren} {H' : Heap} {w w' : World} {b : Nat} {o : Obj} (h : St ρ H w ρ' H' w') (hb : b < w.heap.size) : St ρ H (w.putObj b o) ρ' H' (w'.putObj b o) where
  mono := h.mono
  next := h.next
  dead := h.dead
  ro := h.ro
  fresh := fun id i h1 h2 => by simpa using h.fresh id i h1 h2
  os := h.os
  tape := h.tape
  output := h.output
  size := by simpa using h.size
  frame := fun k hk hn => by
    by_cases e : k = b
    · subst e
      rw [World.putObj_heap_same (Nat.lt_of_lt_of_le hb h.size), World.putObj_heap_same hb]
    · rw [World.putObj_heap_other e, World.putObj_heap_other e]
      exact h.frame k (by simpa using hk) hn

theorem heap_alloc {w : World} (o : Obj) (k : Nat) (hk : k < w.heap.size) : (w.alloc o).heap[k]? = w.heap[k]? := by
  show (w.heap.push o)[k]? = _
  rw [Array.getElem?_push, if_neg (by omega)]
theorem Less.kill (H : Heap) (l : Nat) : Less (H.kill l) H := ⟨Nat.le_refl _, fun id b hb => by
  rw [Heap.get_kill] at hb
  split at hb
  · cases hb
  · exact hb⟩

/-- What a round gives to whoever yielded. -/
noncomputable def RoundEnd (l : Nat) (L : Option Code → Blk) (v : Value) (H' : Heap) : Ex → Env → Heap → Prop
  | .normal, _, H1 => v = .bool true ∧ Less H' (H1.set l (L none))
  | .ret, _, H1 => v = .bool false ∧ Less H' (H1.set l (L (some .ret)))
  | .exit id, _, H1 => v = .bool false ∧ Less H' (H1.set l (L (some (.exit id))))
  | .goto t, _, H1 => v = .bool false ∧ Less H' (H1.set l (L (some (.goto t))))
  | .panic _, _, _ => False

/-- A yield with such values, over such a heap, gives so, and leaves such a heap. -/
def YDoes (P : Program) (l : Nat) (args : List Value) (H : Heap) (v : Value) (H' : Heap) : Prop :=
  ∀ ρ w args' i, Sim P ρ H w → VL ρ args args' → ρ l = some i → ∃ fn tmps as bd, (Instr.yield i.at_.block args'.toArray).run P w = .ok (.round i.at_.block fn tmps as bd) w ∧
    ∀ z m, RoundIn (fen z) m P i.at_.block fn tmps as bd w fun e w' => ∃ ρ', OutRel ρ' (.ret v) e ∧ St ρ H w ρ' H' w' ∧ Sim P ρ' H' w'

theorem wpIn_any {z : Rd} {c : Code} {Q : Exit → Act → World → Prop} {a : Act} {w : World} {m m' : Nat} (h : c.wpIn (fen z) m P Q a w) : c.wpIn (fen z) m' P Q a w :=
  fun b k cs hro hb hr => h b k cs hro hb (fen_room _ _)

theorem ydoes_of_wp {l : Nat} {A0 : Env} {ps : Array Tmp} {as bd : Code} {args : List Value} {v : Value} {H' : Heap} (hl : H.get l = some (.loop A0 n ps as bd none)) (hps : args.length = ps.size)
    (h : AWp P n as (Then (AWp P n bd (RoundEnd l (Blk.loop A0 n ps as bd) v H')) (fun _ _ _ => False)) (setPs A0 ps.toList args) (H.kill l)) : YDoes P l args H v H' := by
  intro ρ w args' i hs ha hi
  obtain ⟨fn, tmps, D, hh, hn, htm⟩ := hs.live l _ i hl hi
  obtain ⟨rc, hrc⟩ : ∃ rc : Loop, rc = { state := .ready, pending := none, fn := fn, tmps := tmps, params := ps, assign := as, body := bd, defers := D } := ⟨_, rfl⟩
  have hh : w.heap[i.at_.block]? = some (.loop rc) := by rw [hrc]; exact hh
  have hy := run_yield (P := P) (args := args'.toArray) hh (by rw [hrc]; simp [← hps, ha.1])
  refine ⟨_, _, _, _, hy, fun z m => ?_⟩
  obtain ⟨tm, htm'⟩ : ∃ tm, tm = (rc.params.zip args'.toArray).foldl (fun tmps x => tmps.setIfInBounds x.1 x.2) rc.tmps := ⟨_, rfl⟩
  have hz : rc.params.zip args'.toArray = (ps.toList.zip args').toArray := by
    rw [hrc]
    apply Array.ext'
    simp
  have htm2 : tm = (ps.toList.zip args').foldl (fun t (p : Nat × Value) => t.setIfInBounds p.1 p.2) tmps := by
    rw [htm', hz, hrc]
    simp
  obtain ⟨r1, r2⟩ := setPs_rel ps.toList A0 tmps args args' ha hn htm
  rw [← htm2] at r1 r2
  -- the loop's record is hidden
  have hid : Hid ρ (H.kill l) w i.at_.block (.loop rc) := ⟨hh, fun id j bl hj hb e => by
    rw [Heap.get_kill] at hb
    split at hb
    · cases hb
    · rename_i hne
      exact hs.sep l id _ bl i j hl hb hi hj rfl (fun e => hne e.symm) e.symm⟩
  have hk : Sim P ρ (H.kill l) w := hs.less (.kill H l)
  have hasn : rc.assign = as := by rw [hrc]
  have hbdy : rc.body = bd := by rw [hrc]
  rw [hasn, hbdy]
  show RoundIn (fen z) m P i.at_.block rc.fn ((rc.params.zip args'.toArray).foldl (fun tmps x => tmps.setIfInBounds x.1 x.2) rc.tmps) as bd w _
  rw [← htm']
  refine roundIn_of_wpIn (F := fen z) trivial ?_
  have h1 := h ⟨some i.at_.block, 0, []⟩ ρ w { tmps := tm, defers := [] } hk ⟨⟨r1, r2⟩, ⟨⟨[], rfl, .nil, fun d hd => by simp at hd⟩, fun l' hl' => by cases hl'; exact ⟨rfl, rc, hid⟩, Nat.zero_le _⟩⟩
  refine wpIn_mono (F := fen ⟨some i.at_.block, 0, []⟩) (wpIn_any h1) ?_
  rintro e a1 w1 ⟨e', ρ1, A1, H1, hq, hst, hs1, he1, hr⟩
  cases e' <;> cases e <;> simp only [ExRel] at hr
  case normal.normal =>
    have hid1 := hid.step hst
    refine ⟨_, run_beginRound hid1.at_ (by rw [hrc]), ?_⟩
    obtain ⟨bz, hbz⟩ : ∃ bz : Loop, bz = { rc with state := .busy } := ⟨_, rfl⟩
    rw [← hbz]
    have hs2 : Sim P ρ1 H1 (w1.putObj i.at_.block (.loop bz)) := hs1.putHid hid1
    have hid2 : Hid ρ1 H1 (w1.putObj i.at_.block (.loop bz)) i.at_.block (.loop bz) := hid1.same
    have h2 := hq ⟨some i.at_.block, 0, []⟩ ρ1 _ a1 hs2 ⟨he1.toEnvRel, ⟨⟨[], (he1.fr.round _ rfl).1, .nil, fun d hd => by simp at hd⟩, fun l' hl' => by cases hl'; exact ⟨(he1.fr.round _ rfl).1, bz, hid2⟩, Nat.zero_le _⟩⟩
    refine wpIn_mono (F := fen ⟨some i.at_.block, 0, []⟩) (wpIn_any h2) ?_
    have hst0 : St ρ (H.kill l) (w.putObj i.at_.block (.loop bz)) ρ1 H1 (w1.putObj i.at_.block (.loop bz)) := hst.putBoth hid.lt
    have fin : ∀ (jump : Option Code) (ρ3 : Ren) (H3 : Heap) (w3 : World), St ρ1 H1 (w1.putObj i.at_.block (.loop bz)) ρ3 H3 w3 → Sim P ρ3 H3 w3 → Less H' (H3.set l (Blk.loop A0 n ps as bd jump)) →
        ∃ w4, (Instr.endRound i.at_.block jump).run P w3 = .ok (.bool jump.isNone) w4 ∧ St ρ H w ρ3 H' w4 ∧ Sim P ρ3 H' w4 := by
      intro jump ρ3 H3 w3 hst3 hs3 hless
      have hid3 := hid2.step hst3
      have hst1 := hst0.trans hst3
      obtain ⟨en, hen⟩ : ∃ en : Loop, en = { bz with state := if jump.isNone then .ready else .done, pending := jump } := ⟨_, rfl⟩
      refine ⟨w3.putObj i.at_.block (.loop en), by rw [hen]; exact run_endRound jump hid3.at_, ?_, ?_⟩
      · refine St.less ?_ hless
        have hkg : ∀ id b, (H.kill l).get id = some b → H.get id = some b := fun id b hb => by
          rw [Heap.get_kill] at hb
          split at hb
          · cases hb
          · exact hb
        refine ⟨hst1.mono, hst1.next, fun id j hj hg => ?_, fun id j b b' hj hg hro hb' => ?_, fun id j hj hn' => ?_, hst1.os, hst1.tape, hst1.output, by have := hst1.size; simpa using this, fun k hk hun => ?_⟩
        · have hne : id ≠ l := fun e => by rw [e, hl] at hg; cases hg
          rw [Heap.get_set, if_neg hne]
          exact hst1.dead id j hj (by rw [Heap.get_kill, if_neg hne]; exact hg)
        · have hne : id ≠ l := fun e => by rw [e, hl] at hg; cases hg; cases hro
          rw [Heap.get_set, if_neg hne] at hb'
          exact hst1.ro id j b b' hj (by rw [Heap.get_kill, if_neg hne]; exact hg) hro hb'
        · obtain ⟨f1, f2⟩ := hst1.fresh id j hj hn'
          refine ⟨f1, ?_⟩
          rcases f2 with f2 | ⟨id0, i0, b0, e1, e2, e3, e4⟩
          · left; simpa using f2
          · right; exact ⟨id0, i0, b0, e1, e2, hkg _ _ e3, e4⟩
        · have hne : k ≠ i.at_.block := fun e => hun l i _ hi hl rfl e.symm
          rw [World.putObj_heap_other hne, hst1.frame k (by simpa using hk) (fun id j bl h1 h2 h3 => hun id j bl h1 (hkg _ _ h2) h3), World.putObj_heap_other hne]
      · refine Sim.less ?_ hless
        have hs4 : Sim P ρ3 H3 (w3.putObj i.at_.block (.loop en)) := hs3.putHid hid3
        have hi3 : ρ3 l = some i := hst1.mono _ _ hi
        refine ⟨hs4.dom, fun id b j hb hj => ?_, fun id1 id2 b1 b2 i1 i2 g1 g2 j1 j2 hro hne => ?_, hs4.glob⟩
        · rw [Heap.get_set] at hb
          split at hb
          · rename_i e
            subst e
            cases hb
            rw [hi3] at hj
            cases hj
            refine ⟨fn, tmps, D, ?_, hn, fun t ht => (htm t ht).mono hst1.mono⟩
            rw [World.putObj_heap_same hid3.lt, hen, hbz, hrc]
          · exact hs4.live id b j hb hj
        · rw [Heap.get_set] at g1 g2
          split at g1
          · rename_i e1
            rw [if_neg (fun e2 => hne (e1.trans e2.symm))] at g2
            rw [e1, hi3] at j1
            cases j1
            exact fun e => hid3.un id2 i2 b2 j2 g2 e.symm
          · split at g2
            · rename_i e1 e2
              rw [e2, hi3] at j2
              cases j2
              exact hid3.un id1 i1 b1 j1 g1
            · exact hs4.sep id1 id2 b1 b2 i1 i2 g1 g2 j1 j2 hro hne
    rintro e a3 w3 ⟨e', ρ3, A3, H3, hq3, hst3, hs3, he3, hr3⟩
    cases e' <;> cases e <;> simp only [ExRel] at hr3 <;> simp only [RoundEnd] at hq3
    case normal.normal =>
      obtain ⟨rfl, hless⟩ := hq3
      obtain ⟨w4, q1, q2, q3⟩ := fin none ρ3 H3 w3 hst3 hs3 hless
      exact ⟨_, w4, q1, ρ3, .same _ rfl, q2, q3⟩
    case ret.ret =>
      obtain ⟨rfl, hless⟩ := hq3
      obtain ⟨w4, q1, q2, q3⟩ := fin (some .ret) ρ3 H3 w3 hst3 hs3 hless
      exact ⟨_, w4, q1, ρ3, .same _ rfl, q2, q3⟩
    case exit.exit a b =>
      subst hr3
      obtain ⟨rfl, hless⟩ := hq3
      obtain ⟨w4, q1, q2, q3⟩ := fin (some (.exit a)) ρ3 H3 w3 hst3 hs3 hless
      exact ⟨_, w4, q1, ρ3, .same _ rfl, q2, q3⟩
    case goto.goto a b =>
      subst hr3
      obtain ⟨rfl, hless⟩ := hq3
      obtain ⟨w4, q1, q2, q3⟩ := fin (some (.goto a)) ρ3 H3 w3 hst3 hs3 hless
      exact ⟨_, w4, q1, ρ3, .same _ rfl, q2, q3⟩
  all_goals exact hq.elim

theorem V.yield_inv {ρ : Ren} {l : Nat} {z : Value} (h : V ρ (.func (.yield l) #[] #[]) z) : ∃ i, ρ l = some i ∧ z = .func (.yield i.at_.block) #[] #[] := by
  cases h with
  | same _ hp => simp [plain] at hp
  | func fn xs ys xs' ys' hn h1 h2 h3 h4 => simp [noYield] at hn
  | yield l i h => exact ⟨i, h, rfl⟩

theorem od_yield {d : Option Nat} {ty : TypeId} {pos : String} {af : Array Edge} {g : Option (Nat × Bool)} {c : Operand} {args : Array Operand} {ts : Array TypeId} {l : Nat} {v : Value} {H' : Heap} (ec : ev A c = .func (.yield l) #[] #[])
    (hd : YDoes P l (args.map (ev A)).toList H v H') : OpDoes P ⟨d, .call ⟨.value c, args, ts⟩, ty, pos, af, g⟩ A H v H' := by
  intro ρ w a hs he K Q hk z
  have hv := he c (by simp [Op.operands, Call.operands])
  rw [ec] at hv
  obtain ⟨i, hi, e⟩ := hv.yield_inv
  obtain ⟨fn, tmps, as, bd, hy, hr⟩ := hd ρ w (args.map a.eval).toList i hs (evals (fun x hx => he x (by simp [Op.operands, Call.operands, hx]))) hi
  have hrun : (execOp a.eval ⟨d, .call ⟨.value c, args, ts⟩, ty, pos, af, g⟩).run P w = .ok (.round i.at_.block fn tmps as bd) w := by
    rw [← hy]
    simp only [execOp, resolve, e, Deferred.ofValue, invoke, pure_bind]
    congr 2
    apply Array.ext'
    simp
  refine ⟨fun _ _ => trivial, ?_⟩
  rw [semAt_of hrun (by simp) _]
  refine ⟨fun h => by simp [fen, Fence.wide] at h, ?_⟩
  refine (hr z _).mono ?_
  rintro e w' ⟨ρ', ho, hst, hs'⟩
  cases e with
  | returned v' => exact hk v' ρ' w' ho hst hs'
  | panicked ch => exact ho.elim
  | outgrown => exact ho.elim

/-- How the activation goes on behind a loop: by the jump that ended it. -/
noncomputable def jumpQ (Q : Ex → Env → Heap → Prop) (A : Env) (H : Heap) : Option Code → Prop
  | none => Q .normal A H
  | some .ret => Q .ret A H
  | some (.exit id) => Q (.exit id) A H
  | some (.goto l) => Q (.goto l) A H
  | _ => False

theorem awp_rangeFunc {g : Operand} {ps : Array Tmp} {as bd : Code} {gf : FuncId} {xs ys : Array Value} {v : Value} {H2 : Heap} {st : Option Code} (hok : okArg P n g = true) (hg : ev A g = .func (.func gf) xs ys) (hen : entered P gf = true)
    (hd : Does P gf (xs.toList ++ [.func (.yield H.next) #[] #[]] ++ ys.toList) (H.push (.loop A n ps as bd none)) (.ret v) H2) {A' : Env} {n' : Nat} {ps' : Array Tmp} {as' bd' : Code} (hl : H2.get H.next = some (.loop A' n' ps' as' bd' st)) (hq : jumpQ Q A (H2.kill H.next) st) :
    AWp P n (.rangeFunc g ps as bd) Q A H := by
  intro z ρ w a hs he
  have hgv := he.eval hs hok
  rw [hg] at hgv
  obtain ⟨xs', ys', eg, hx, hy⟩ := hgv.func_inv
  refine wpIn_rangeFunc fun fn _ => ?_
  -- what is laid
  obtain ⟨lr, mk, w1, D, hrun, hw1, hlr, hsz, hold, hD⟩ : ∃ lr mk w1 D, (Instr.enterLoop fn a.tmps ps as bd (fen z).round).run P w = .ok (lr, mk) w1 ∧
      w1.heap[lr]? = some (.loop { state := .ready, pending := none, fn := fn, tmps := a.tmps, params := ps, assign := as, body := bd, defers := D }) ∧ w.heap.size ≤ lr ∧ (w.heap.size ≤ w1.heap.size ∧ w1.os = w.os ∧ w1.tape = w.tape ∧ w1.output = w.output) ∧ (∀ k, k < w.heap.size → w1.heap[k]? = w.heap[k]?) ∧
      ((mk = [] ∧ a.defers = []) ∨ (z.r = none ∧ mk = [mark w.heap.size] ∧ w1.heap[w.heap.size]? = some (.deferred (some [])) ∧ lr ≠ w.heap.size)) := by
    cases hz : z.r with
    | none =>
      refine ⟨w.heap.size + 1, [mark w.heap.size], (w.alloc (.deferred (some []))).alloc (.loop { state := .ready, pending := none, fn := fn, tmps := a.tmps, params := ps, assign := as, body := bd, defers := w.heap.size }), w.heap.size, by rw [show (fen z).round = none from hz]; exact run_enterLoop_outer _ _ _ _ _, ?_, by omega, ⟨by simp; omega, rfl, rfl, rfl⟩, fun k hk => ?_, .inr ⟨rfl, rfl, ?_, by omega⟩⟩
      · have := World.alloc_heap_new (w.alloc (.deferred (some []))) (.loop { state := .ready, pending := none, fn := fn, tmps := a.tmps, params := ps, assign := as, body := bd, defers := w.heap.size })
        rwa [World.size_alloc] at this
      · exact (heap_alloc _ _ (by simp; omega)).trans (heap_alloc _ _ hk)
      · exact (heap_alloc _ _ (by simp)).trans (World.alloc_heap_new w _)
    | some l0 =>
      obtain ⟨hd0, rc, hrc⟩ := he.fr.round l0 hz
      refine ⟨w.heap.size, [], w.alloc (.loop { state := .ready, pending := none, fn := fn, tmps := a.tmps, params := ps, assign := as, body := bd, defers := rc.defers }), rc.defers, by rw [show (fen z).round = some l0 from hz]; exact run_enterLoop_inner hrc.at_ _ _ _ _ _, ?_, Nat.le_refl _, ⟨by simp, rfl, rfl, rfl⟩, fun k hk => heap_alloc _ _ hk, .inl ⟨rfl, hd0⟩⟩
      exact World.alloc_heap_new w _
  obtain ⟨hsz, hos, htp, hou⟩ := hsz
  have hlr1 : lr < w1.heap.size := (Array.getElem?_eq_some_iff.1 hw1).1
  -- the loop's record is a block
  have hfreshid : ρ H.next = none := by
    cases hr : ρ H.next with
    | none => rfl
    | some i => have := hs.dom _ i hr; omega
  have hsub : Sub ρ (ext ρ H.next ⟨⟨lr, 0, none⟩, 0, 0⟩) := fun id i hi => by
    have : id ≠ H.next := fun e => by rw [e, hfreshid] at hi; cases hi
    rw [ext_ne _ _ this]; exact hi
  obtain ⟨ρ1, hρ1⟩ : ∃ ρ1, ρ1 = ext ρ H.next ⟨⟨lr, 0, none⟩, 0, 0⟩ := ⟨_, rfl⟩
  rw [← hρ1] at hsub
  have hthis : ρ1 H.next = some ⟨⟨lr, 0, none⟩, 0, 0⟩ := by rw [hρ1]; exact ext_same _ _ _
  have hother : ∀ id, id ≠ H.next → ρ1 id = ρ id := fun id h => by rw [hρ1]; exact ext_ne _ _ h
  have hs1 : Sim P ρ1 (H.push (.loop A n ps as bd none)) w1 := by
    refine ⟨fun id i hi => ?_, fun id b i hb hi => ?_, fun id1 id2 b1 b2 i1 i2 g1 g2 j1 j2 hro hne => ?_, fun k hk => ?_⟩
    · simp only [Heap.next_push]
      by_cases e : id = H.next
      · omega
      · rw [hother id e] at hi; have := hs.dom id i hi; omega
    · rw [Heap.get_push] at hb
      split at hb
      · rename_i e
        subst e
        cases hb
        rw [hthis] at hi
        cases hi
        exact ⟨fn, a.tmps, D, hw1, he.size, fun t ht => (he.tmps t ht).mono hsub⟩
      · rename_i e
        rw [hother id e] at hi
        have := hs.live id b i hb hi
        exact this.mono hsub (hold _ this.lt)
    · rw [Heap.get_push] at g1 g2
      split at g1
      · rename_i e1
        rw [if_neg (fun e2 => hne (e1.trans e2.symm))] at g2
        rw [e1, hthis] at j1
        cases j1
        rw [hother id2 (fun e2 => hne (e1.trans e2.symm))] at j2
        have := (hs.live id2 b2 i2 g2 j2).lt
        simp only
        omega
      · rename_i e1
        rw [hother id1 e1] at j1
        split at g2
        · rename_i e2
          rw [e2, hthis] at j2
          cases j2
          have := (hs.live id1 b1 i1 g1 j1).lt
          simp only
          omega
        · rename_i e2
          rw [hother id2 e2] at j2
          exact hs.sep id1 id2 b1 b2 i1 i2 g1 g2 j1 j2 hro hne
    · obtain ⟨i, hi, e⟩ := hs.glob k hk
      exact ⟨i, hsub _ _ hi, e⟩
  have hst1 : St ρ H w ρ1 (H.push (.loop A n ps as bd none)) w1 := by
    refine ⟨hsub, by simp, fun id i hi hg => ?_, fun id i b b' hi hg hro hb' => ?_, fun id i hi hn => ?_, hos, htp, hou, hsz, fun k hk _ => hold k hk⟩
    · rw [Heap.get_push, if_neg (by have := hs.dom id i hi; omega)]; exact hg
    · rw [Heap.get_push, if_neg (by have := hs.dom id i hi; omega), hg] at hb'; cases hb'; exact hro
    · by_cases e : id = H.next
      · rw [e, hthis] at hi; cases hi; exact ⟨by omega, .inl hlr⟩
      · rw [hother id e, hn] at hi; cases hi
  refine ⟨lr, mk, w1, { target := .fn (.func gf) ys', args := xs' ++ #[.func (.yield lr) #[] #[]] }, w1, gf, xs' ++ #[.func (.yield lr) #[] #[]] ++ ys', w1, hrun, ?_, fun _ _ => trivial, ?_, fun h => by simp [fen, Fence.wide] at h, ?_⟩
  · simp only [resolve, eg]
    simp [go_sem, Deferred.ofValue]
  · simp [invoke, go_sem, run_callFunc hen]
  · have hargs : VL ρ1 (xs.toList ++ [.func (.yield H.next) #[] #[]] ++ ys.toList) (xs'.toList ++ [.func (.yield lr) #[] #[]] ++ ys'.toList) :=
      ((hx.mono hsub).append (.cons (.yield _ _ hthis) (.nil _))).append (hy.mono hsub)
    have hcall := hd ρ1 w1 _ hs1 hargs
    rw [show (xs'.toList ++ [Value.func (.yield lr) #[] #[]] ++ ys'.toList).toArray = xs' ++ #[.func (.yield lr) #[] #[]] ++ ys' by apply Array.ext'; simp] at hcall
    refine callsIn_fen (hcall.mono ?_)
    rintro e w3 ⟨ρ3, ho, hst3, hs3⟩
    cases e with
    | panicked ch => exact ho.elim
    | outgrown => exact ho.elim
    | returned v' =>
      have hi3 : ρ3 H.next = some ⟨⟨lr, 0, none⟩, 0, 0⟩ := hst3.mono _ _ hthis
      obtain ⟨fn', tm', D', hh3, _⟩ := hs3.live _ _ _ hl hi3
      simp only at hh3
      obtain ⟨rc, hrc⟩ : ∃ rc : Loop, rc = { state := if st.isNone then .ready else .done, pending := st, fn := fn', tmps := tm', params := ps', assign := as', body := bd', defers := D' } := ⟨_, rfl⟩
      rw [← hrc] at hh3
      have hbusy : rc.state ≠ .busy := by rw [hrc]; cases st <;> simp
      have hpend : rc.pending = st := by rw [hrc]
      have hid3 : Hid ρ3 (H2.kill H.next) w3 lr (.loop rc) := ⟨hh3, fun id j bl hj hb e => by
        rw [Heap.get_kill] at hb
        split at hb
        · cases hb
        · rename_i hne
          exact hs3.sep H.next id _ bl _ j hl hb hi3 hj rfl (fun e => hne e.symm) e.symm⟩
      have hst4 : St ρ H w ρ3 (H2.kill H.next) (w3.putObj lr (.loop { rc with state := .exhausted })) := ((hst1.trans hst3).less (.kill H2 _)).putHid hlr
      have hs4 : Sim P ρ3 (H2.kill H.next) (w3.putObj lr (.loop { rc with state := .exhausted })) := (hs3.less (.kill H2 _)).putHid hid3
      have he4 : EnvFr z ρ3 (H2.kill H.next) (w3.putObj lr (.loop { rc with state := .exhausted })) n A { a with defers := mk ++ a.defers } := by
        refine ⟨⟨he.size, fun t ht => (he.tmps t ht).mono (hsub.trans hst3.mono)⟩, ?_⟩
        have f4 : Fr z ρ3 (H2.kill H.next) (w3.putObj lr (.loop { rc with state := .exhausted })) a := he.fr.step hst4 rfl
        rcases hD with ⟨rfl, _⟩ | ⟨hz, rfl, hDat, hDne⟩
        · exact f4
        · obtain ⟨ds, q1, q2, q3⟩ := f4.marks
          refine ⟨⟨w.heap.size :: ds, by rw [q1]; rfl, List.nodup_cons.2 ⟨fun hm => ?_, q2⟩, fun d hd => ?_⟩, fun l hl => (by rw [hz] at hl; cases hl), f4.base⟩
          · obtain ⟨ds0, p1, p2, p3⟩ := he.fr.marks
            have : ds0 = ds := by
              have := p1.symm.trans q1
              exact (List.map_inj_right (fun x y h => by simpa [mark] using h)).1 (List.append_cancel_right this)
            subst this
            have := (p3 _ hm).2.lt
            omega
          · rcases List.mem_cons.1 hd with rfl | hd
            · have hD1 : Hid ρ1 (H.push (.loop A n ps as bd none)) w1 w.heap.size (.deferred (some [])) := ⟨hDat, fun id j bl hj hb => by
                by_cases e : id = H.next
                · rw [e, hthis] at hj; cases hj; exact hDne
                · rw [hother id e] at hj
                  rw [Heap.get_push, if_neg e] at hb
                  have := (hs.live id bl j hb hj).lt
                  omega⟩
              have hD3 := hD1.step hst3
              refine ⟨he.fr.base, ?_⟩
              have hD3' : Hid ρ3 (H2.kill H.next) w3 w.heap.size (.deferred (some [])) := ⟨hD3.at_, fun id j bl hj hb => hD3.un id j bl hj ((Less.kill H2 _).get _ _ hb)⟩
              exact hD3'.put (fun e => hDne e.symm)
            · exact q3 d hd
      refine ⟨st, w3.putObj lr (.loop { rc with state := .exhausted }), (run_endLoop (P := P) hh3 hbusy).trans (by rw [hpend]), ?_⟩
      cases st with
      | none => exact ⟨.normal, ρ3, A, _, hq, hst4, hs4, he4, trivial⟩
      | some c =>
        cases c <;> simp only [jumpQ] at hq
        case ret => exact wpIn_ret ⟨.ret, ρ3, A, _, hq, hst4, hs4, he4, trivial⟩
        case exit id => exact wpIn_exit ⟨.exit id, ρ3, A, _, hq, hst4, hs4, he4, rfl⟩
        case goto id => exact wpIn_goto ⟨.goto id, ρ3, A, _, hq, hst4, hs4, he4, rfl⟩
end
end Go.Ab
/- Functions that defer one function, which recovers first thing. -/
set_option linter.unusedVariables false
namespace Go.Ab
section
variable {P : Program}

/-- What recover gives, by the mode of the frame below. -/
def RecAs (u u' : FrameMode) (r : Value) : Prop := (u = .returning ∧ u' = .returning ∧ r = .nilIface) ∨ (u = .panicking [{ v := r, recovered := false }] ∧ u' = .panicking [{ v := r, recovered := true }])

/-- An operation that recovers. -/
noncomputable def isRec (o : Oper) : Bool := match o.op with
  | .call ⟨.builtin .recover, args, _⟩ => o.guard.isNone && args.isEmpty
  | _ => false

/-- How a body ends that gives nothing. -/
def DEnd (QD : Heap → Prop) : Ex → Env → Heap → Prop
  | .normal, _, H => QD H
  | .ret, _, H => QD H
  | _, _, _ => False
def OnlyN (k : Env → Heap → Prop) : Ex → Env → Heap → Prop
  | .normal, A, H => k A H
  | _, _, _ => False

theorem marks_steps {z : Rd} {ρ0 ρ : Ren} {H0 H : Heap} {w0 : World} : ∀ (ds : List Nat) (w : World), ds.Nodup → (∀ d ∈ ds, w0.heap.size ≤ d ∧ Hid ρ H w d (.deferred (some []))) →
    St ρ0 H0 w0 ρ H w → Sim P ρ H w → ∀ (fr : Frame) (cs : List Frame), fr.mode ≠ .run → fr.defers = ds.map mark → ∃ w', St ρ0 H0 w0 ρ H w' ∧ Sim P ρ H w' ∧ StepsIn (Machine.fenced P (fen z)) P (lone fr cs w) (lone { fr with defers := [] } cs w')
  | [], w, _, _, hst, hs, fr, cs, hm, hd => ⟨w, hst, hs, by
      have : ({ fr with defers := [] } : Frame) = fr := by cases fr; simp at hd; simp [hd]
      rw [this]; exact .refl _⟩
  | d :: ds, w, hn, hd, hst, hs, fr, cs, hm, hde => by
    obtain ⟨h1, h2⟩ := hd d (by simp)
    rw [List.nodup_cons] at hn
    have hst1 := hst.putHid (b := d) (o' := .deferred none) h1
    have hs1 := hs.putHid (o' := .deferred none) h2
    have step1 := step_collected (cs := cs) hm (d := mark d) (ds := ds.map mark) (by rw [hde]; rfl) rfl (run_takeDeferred (P := P) h2.at_)
    obtain ⟨w', k1, k2, k3⟩ := marks_steps (z := z) ds _ hn.2 (fun x hx => ⟨(hd x (by simp [hx])).1, (hd x (by simp [hx])).2.put (fun (e : x = d) => hn.1 (e ▸ hx))⟩) hst1 hs1 { fr with defers := [] ++ ds.map mark } cs hm rfl
    exact ⟨w', k1, k2, .head (fenced_fen P z _) step1 k3⟩

theorem recoverD_as {u u' : FrameMode} {r : Value} (h : RecAs u u' r) (c₀ : Frame) (cs : List Frame) (hu : c₀.mode = u) :
    (recoverD (c₀ :: cs) = none ∧ r = .nilIface ∧ ({ c₀ with mode := u' } : Frame) = c₀) ∨ recoverD (c₀ :: cs) = some (r, { c₀ with mode := u' } :: cs) := by
  rcases h with ⟨h1, h2, h3⟩ | ⟨h1, h2⟩
  · left
    refine ⟨by simp [recoverD, hu, h1], h3, ?_⟩
    rw [h2, ← h1, ← hu]
  · right
    simp [recoverD, hu, h1, h2]

/-- What a deferred function that recovers first thing does. -/
def DDoes (P : Program) (g : FuncId) (args : List Value) (H : Heap) (r : Value) (QD : Heap → Prop) : Prop :=
  ∀ (z : Rd) ρ w args' u u' r', Sim P ρ H w → VL ρ args args' → V ρ r r' → RecAs u u' r' →
    CallsDIn (fen z) 0 P g args'.toArray u w fun e u2 w' => u2 = u' ∧ (∃ v, e = .returned v) ∧ ∃ ρ' H', QD H' ∧ St ρ H w ρ' H' w' ∧ Sim P ρ' H' w'

theorem ddoes_of_wp {g : FuncId} {fn : Func} {id : Nat} {ops : Array Oper} {o : Oper} {l : List Oper} {rest : Code} {args : List Value} {H : Heap} {r : Value} {QD : Heap → Prop}
    (hf : P.funcs[g]? = some fn) (hb : fn.body = some (.seq (.region id ops false) rest)) (hl : ops.toList = o :: l) (ho : isRec o = true) (hdst : dstOk (args.length + (fn.ntmps - args.length)) o.dst = true) (hres : fn.results = #[])
    (h : AOps P (args.length + (fn.ntmps - args.length)) ops l (OnlyN (AWp P (args.length + (fn.ntmps - args.length)) rest (DEnd QD))) (updO (envOf args) o.dst r) H) : DDoes P g args H r QD := by
  intro z ρ w args' u u' r' hs ha hr hrec
  refine ⟨trivial, fun c₀ cs hu hroom => ?_⟩
  let b : Frame := { (default : Frame) with fn := g, kind := .deferred, roundOf := none }
  have henter : Frame.enter P g args'.toArray .deferred =
      b.atR { tmps := args'.toArray ++ Array.replicate (fn.ntmps - args'.toArray.size) undef, defers := [] } [.code (.seq (.region id ops false) rest)] := by
    simp [Frame.enter, Frame.atR, hf, hb, b]
  obtain ⟨a, hadef⟩ : ∃ a : Act, a = { tmps := args'.toArray ++ Array.replicate (fn.ntmps - args'.toArray.size) undef, defers := [] } := ⟨_, rfl⟩
  rw [← hadef] at henter
  rw [henter]
  have hn : ∃ zz : Rd, zz = ⟨none, w.heap.size, []⟩ := ⟨_, rfl⟩
  obtain ⟨zz, hzz⟩ := hn
  have he : EnvFr zz ρ H w (args.length + (fn.ntmps - args.length)) (envOf args) a := by
    rw [hzz, hadef]
    exact ⟨envRel_enter fn.ntmps ha, ⟨⟨[], rfl, .nil, fun d hd => by simp at hd⟩, fun l hl => by simp at hl, Nat.le_refl _⟩⟩
  have s0 : StepsIn (Machine.fenced P (fen z)) P (lone (b.atR a [.code (.seq (.region id ops false) rest)]) (c₀ :: cs) w) (lone (b.atR a (.inRegion ops (List.range ops.size) :: [.code rest])) (c₀ :: cs) w) :=
    .head (fenced_fen P z _) stepR_seq (.one (fenced_fen P z _) stepR_region)
  have hsz : ops.size = l.length + 1 := by have := congrArg List.length hl; simpa using this
  have hrange : List.range ops.size = 0 :: List.range' 1 l.length := by
    rw [hsz, List.range_eq_range', List.range'_succ]
  rw [hrange] at s0
  have h0 : ops[0]? = some o := by rw [← Array.getElem?_toList, hl]; rfl
  obtain ⟨dst, op, ty, pos, af, gd⟩ := o
  unfold isRec at ho
  split at ho
  · rename_i rargs rts hop
    simp only [Bool.and_eq_true] at ho
    obtain ⟨hg, hra⟩ := ho
    simp only at hop hg
    have hg : gd = none := by simpa using hg
    subst hg
    have hra : rargs = #[] := by simpa using hra
    subst hra
    -- recover
    have hw : Region.wanted (⟨dst, op, ty, pos, af, none⟩ : Oper) (yielded ops a.tmps) = true := by simp [Region.wanted]
    have hsem : (execOp a.eval (⟨dst, op, ty, pos, af, none⟩ : Oper)).run P w = .ok .recover w := by
      subst hop
      simp [execOp, resolve, invoke]
      rfl
    have hgs := stepGR_op (P := P) (b := b) (k := [.code rest]) (cs := c₀ :: cs) (w := w) (a := a) (rest := List.range' 1 l.length) h0 hw
    have hgs' : stepG P true { frame := b.atR a (.inRegion ops (0 :: List.range' 1 l.length) :: [.code rest]), callers := c₀ :: cs, status := .running, dying := none } w =
      stepG.apply P true (b.atR a (.inRegion ops (0 :: List.range' 1 l.length) :: [.code rest])) (c₀ :: cs) none (execOp a.eval (⟨dst, op, ty, pos, af, none⟩ : Oper)) w := by
      rw [hgs, show b.roundOf = none from rfl, Oper.semAt_none]
    have hfin : ∀ v, (b.atR a (.inRegion ops (0 :: List.range' 1 l.length) :: [.code rest])).finish v = b.atR (a.put dst v) (.inRegion ops (List.range' 1 l.length) :: [.code rest]) := by
      intro v; rw [Frame.finish_atR, h0]; rfl
    have hk : (b.atR a (.inRegion ops (0 :: List.range' 1 l.length) :: [.code rest])).kind = .deferred := rfl
    have htr := tryRecover_deferred hk (c₀ :: cs)
    have hro : b.roundOf = none := rfl
    have s1 : StepsIn (Machine.fenced P (fen z)) P (lone (b.atR a (.inRegion ops (0 :: List.range' 1 l.length) :: [.code rest])) (c₀ :: cs) w) (lone (b.atR (a.put dst r') (.inRegion ops (List.range' 1 l.length) :: [.code rest])) ({ c₀ with mode := u' } :: cs) w) := by
      refine .one (fenced_fen P z _) (step_lone_go ?_)
      rw [hgs', ← hfin]
      rcases recoverD_as hrec c₀ cs hu with ⟨q1, q2, q3⟩ | q1
      · rw [q1] at htr
        rw [q2, q3]
        simp only [Frame.atR, hro] at htr ⊢
        simp [stepG.apply, hsem, htr]
      · rw [q1] at htr
        simp only [Frame.atR, hro] at htr ⊢
        simp [stepG.apply, hsem, htr]
    -- the rest of the region
    have hops := h zz ρ w (a.put dst r') hs (he.putO hdst hr)
    have e2 := wpOpsIn_eq_wpListIn (F := fen zz) (n := 0) (P := P) (ops := ops) (Q := Lift P (args.length + (fn.ntmps - args.length)) zz ρ H w (OnlyN (AWp P (args.length + (fn.ntmps - args.length)) rest (DEnd QD)))) l 1 (fun j => by
      rw [← Array.getElem?_toList, hl, Nat.add_comm, List.getElem?_cons_succ])
    rw [← e2] at hops
    obtain ⟨e, a1, w1, hl1, harr1⟩ := wp_opsIn _ _ _ hops b [.code rest] ({ c₀ with mode := u' } :: cs) (by rw [hzz]; rfl) trivial (fen_room zz _)
    obtain ⟨e', ρ1, A1, H1, hq, hst1, hs1, he1, hx⟩ := hl1
    cases e' <;> simp only [OnlyN] at hq
    cases e <;> simp only [ExRel] at hx
    have s2 : Steps P (lone (b.atR (a.put dst r') (.inRegion ops (List.range' 1 l.length) :: [.code rest])) ({ c₀ with mode := u' } :: cs) w) (lone (b.atR a1 [.code rest]) ({ c₀ with mode := u' } :: cs) w1) := stepsIn_fen.1 harr1
    obtain ⟨e, a2, w2, hl2, harr2⟩ := hq zz ρ1 w1 a1 hs1 he1 b [] ({ c₀ with mode := u' } :: cs) (by rw [hzz]; rfl) trivial (fen_room zz _)
    obtain ⟨e', ρ2, A2, H2, hq2, hst2, hs2, he2, hx2⟩ := hl2
    have hst := hst1.trans hst2
    obtain ⟨ds, hds, hnd, hdh⟩ := he2.fr.marks
    have hds : a2.defers = ds.map mark := by rw [hds, hzz]; simp
    have hb0 : zz.b = w.heap.size := by rw [hzz]
    have fin : ∀ todo, QD H2 → Steps P (lone (b.atR a1 [.code rest]) ({ c₀ with mode := u' } :: cs) w1) (lone ({ b.atR a2 todo with mode := .returning }) ({ c₀ with mode := u' } :: cs) w2) →
        ∃ e u2 w' fr, (u2 = u' ∧ (∃ v, e = .returned v) ∧ ∃ ρ' H', QD H' ∧ St ρ H w ρ' H' w' ∧ Sim P ρ' H' w') ∧
          ComesIn (Machine.fenced P (fen z)) P (lone (b.atR a [.code (.seq (.region id ops false) rest)]) (c₀ :: cs) w) (lone fr ({ c₀ with mode := u2 } :: cs) w') e ∧ fr.kind = .deferred ∧ fr.fn = g ∧ fr.going P w' e := by
      intro todo hQD s3
      obtain ⟨w3, hst3, hs3, s4⟩ := marks_steps (z := z) (w0 := w) ds w2 hnd (fun d hd => ⟨hb0 ▸ (hdh d hd).1, (hdh d hd).2⟩) hst hs2 { b.atR a2 todo with mode := .returning } ({ c₀ with mode := u' } :: cs) (by simp) hds
      refine ⟨.returned (.tuple #[]), u', w3, { { b.atR a2 todo with mode := .returning } with defers := [] }, ⟨rfl, ⟨_, rfl⟩, ρ2, H2, hQD, hst3, hs3⟩, ?_, rfl, rfl, rfl, rfl, fn, hf, ?_⟩
      · exact StepsIn.trans s0 (StepsIn.trans s1 (StepsIn.trans (stepsIn_fen.2 s2) (StepsIn.trans (stepsIn_fen.2 s3) s4)))
      · simp [results, hres, go_sem]
    cases e' <;> cases e <;> simp only [ExRel] at hx2 <;> simp only [DEnd] at hq2
    case normal.normal =>
      have s3 : Steps P (lone (b.atR a1 [.code rest]) ({ c₀ with mode := u' } :: cs) w1) (lone (b.atR a2 []) ({ c₀ with mode := u' } :: cs) w2) := stepsIn_fen.1 harr2
      exact fin [] hq2 (Steps.trans s3 (.one (stepR_end rfl)))
    case ret.ret =>
      obtain ⟨todo, s3⟩ := harr2.1 rfl
      exact fin todo hq2 (stepsIn_fen.1 s3)
  · cases ho
/-- An operation that defers a function's value: its slot. -/
noncomputable def isDef (o : Oper) : Option Nat := match o.op with
  | .defer ⟨.value (.tmp t), args, _⟩ => bif o.guard.isNone && args.isEmpty && o.dst.isNone then some t else none
  | _ => none

/-- What a function gives that deferred such a function. -/
def GEnd (P : Program) (n : Nat) (rs : Array ResultVar) (out : Out) (H' : Heap) (g : FuncId) (as : List Value) : Ex → Env → Heap → Prop
  | .normal, A, H => DDoes P g as H .nilIface (fun H2 => ∃ v, out = .ret v ∧ ares P n rs A H2 = some v ∧ Less H' H2)
  | .ret, A, H => DDoes P g as H .nilIface (fun H2 => ∃ v, out = .ret v ∧ ares P n rs A H2 = some v ∧ Less H' H2)
  | .panic v, A, H => DDoes P g as H v (fun H2 => ∃ v, out = .ret v ∧ ares P n rs A H2 = some v ∧ Less H' H2)
  | _, _, _ => False

theorem wpList_append {z : Rd} {ops : Array Oper} {Q : Exit → Act → World → Prop} {l2 : List Oper} : ∀ (l1 : List Oper) (a : Act) (w : World),
    wpListIn (fen z) 0 P ops (fun e a w => match e with | .normal => wpListIn (fen z) 0 P ops Q l2 a w | e => Q e a w) l1 a w → wpListIn (fen z) 0 P ops Q (l1 ++ l2) a w
  | [], a, w, h => h
  | o :: rest, a, w, h => by
    rw [List.cons_append]
    unfold wpListIn at h ⊢
    split at h
    · rename_i hw
      rw [if_pos hw]
      refine ⟨h.1, ?_⟩
      have h2 := h.2
      generalize (o.semAt (fen z).round a.eval).run P w = r at h2 ⊢
      cases r with
      | ok nx w1 =>
        cases nx <;> simp only [Oper.uponIn] at h2 ⊢ <;> first
          | exact wpList_append rest _ _ h2
          | exact ⟨h2.1, CallsIn.mono h2.2 (fun e w2 he => by
              cases e with
              | returned v => exact wpList_append rest _ _ he
              | panicked ch => exact he
              | outgrown => exact he)⟩
          | exact ⟨h2.1, RowsIn.mono h2.2 (fun v w2 he => wpList_append rest _ _ he)⟩
          | exact ⟨h2.1, RoundIn.mono h2.2 (fun e w2 he => by
              cases e with
              | returned v => exact wpList_append rest _ _ he
              | panicked ch => exact he
              | outgrown => exact he)⟩
      | halt x w1 => cases x <;> simp only [Oper.uponIn] at h2 ⊢ <;> exact h2
    · rename_i hw
      rw [if_neg hw]
      exact ⟨h.1, wpList_append rest _ _ h.2⟩

theorem leaves_marks2 {fn : Func} {tmps : Array Value} {R : Ending → World → Prop} {u : FrameMode} {z : Rd} {ρ0 ρ : Ren} {H0 H : Heap} {w0 : World} {more : List Deferred} (hu : u ≠ .run) : ∀ (ds : List Nat) (w : World), ds.Nodup → (∀ d ∈ ds, w0.heap.size ≤ d ∧ Hid ρ H w d (.deferred (some []))) →
    St ρ0 H0 w0 ρ H w → Sim P ρ H w → (∀ w, St ρ0 H0 w0 ρ H w → Sim P ρ H w → LeavesInM (fen z) 0 P fn tmps R more u w) → LeavesInM (fen z) 0 P fn tmps R (ds.map mark ++ more) u w
  | [], w, _, _, hst, hs, h => h w hst hs
  | d :: ds, w, hn, hd, hst, hs, h => by
    obtain ⟨h1, h2⟩ := hd d (by simp)
    refine ⟨hu, .inl ⟨d, _, rfl, run_takeDeferred h2.at_, ?_⟩⟩
    rw [List.nodup_cons] at hn
    exact leaves_marks2 hu ds _ hn.2 (fun x hx => ⟨(hd x (by simp [hx])).1, (hd x (by simp [hx])).2.put (fun (e : x = d) => hn.1 (e ▸ hx))⟩) (hst.putHid h1) (hs.putHid h2) h

theorem guarded_does {f : FuncId} {fn : Func} {c0 rest : Code} {id : Nat} {ops : Array Oper} {init : List Oper} {o : Oper} {t : Nat} {args : List Value} {H H' : Heap} {out : Out}
    (hf : P.funcs[f]? = some fn) (hb : fn.body = some (.seq c0 (.seq (.region id ops false) rest))) (hops : ops.toList = init ++ [o]) (ho : isDef o = some t) (ht : t < args.length + (fn.ntmps - args.length))
    (h : AWp P (args.length + (fn.ntmps - args.length)) c0 (OnlyN (AOps P (args.length + (fn.ntmps - args.length)) ops init (OnlyN fun A2 H2 => ∃ g xs ys, A2 t = .func (.func g) xs ys ∧ entered P g = true ∧
      AWp P (args.length + (fn.ntmps - args.length)) rest (GEnd P (args.length + (fn.ntmps - args.length)) fn.results out H' g (xs.toList ++ ys.toList)) A2 H2))) (envOf args) H) : Does P f args H out H' := by
  intro ρ w args' hs ha
  obtain ⟨z, hz⟩ : ∃ z : Rd, z = ⟨none, w.heap.size, []⟩ := ⟨_, rfl⟩
  have hzr : z.r = none := by rw [hz]
  refine callsIn_wide.1 (callsIn_of_wp_marks (F := fen z) (n := 0) hf hb trivial ?_ hzr)
  obtain ⟨a, hadef⟩ : ∃ a : Act, a = { tmps := args'.toArray ++ Array.replicate (fn.ntmps - args'.toArray.size) undef, defers := [] } := ⟨_, rfl⟩
  rw [← hadef]
  have he : EnvFr z ρ H w (args.length + (fn.ntmps - args.length)) (envOf args) a := by
    rw [hz, hadef]
    exact ⟨envRel_enter fn.ntmps ha, ⟨⟨[], rfl, .nil, fun d hd => by simp at hd⟩, fun l hl => by simp at hl, Nat.le_refl _⟩⟩
  refine wpIn_seq (wpIn_mono (h z ρ w a hs he) ?_)
  rintro e0 a0 w0 ⟨e0', ρ0, A0, H0, hq0, hst0, hs0, he0, hx0⟩
  cases e0' <;> simp only [OnlyN] at hq0
  cases e0 <;> simp only [ExRel] at hx0
  refine wpIn_seq (wpIn_region ?_)
  have e2 := wpOpsIn_eq_wpListIn (F := fen z) (n := 0) (P := P) (ops := ops) (Q := Exit.then (rest.wpIn (fen z) 0 P (bodyPostM (fen z) 0 P fn fun e w' => ∃ ρ', OutRel ρ' out e ∧ St ρ H w ρ' H' w' ∧ Sim P ρ' H' w')) (bodyPostM (fen z) 0 P fn fun e w' => ∃ ρ', OutRel ρ' out e ∧ St ρ H w ρ' H' w' ∧ Sim P ρ' H' w')) ops.toList 0 (fun j => by simp)
  rw [Array.length_toList, ← List.range_eq_range'] at e2
  rw [e2, hops]
  refine wpList_append init a0 w0 (wpList_mono_post ?_ init a0 w0 (hq0 z ρ0 w0 a0 hs0 he0))
  rintro e1 a1 w1 ⟨e1', ρ1, A1, H1, hq1, hst1, hs1, he1, hx1⟩
  cases e1' <;> simp only [OnlyN] at hq1
  cases e1 <;> simp only [ExRel] at hx1
  obtain ⟨g, xs, ys, eg, hen, hrest⟩ := hq1
  have hst01 := hst0.trans hst1
  obtain ⟨ds0, hds0, hnd0, hdh0⟩ := he1.fr.marks
  have hds0 : a1.defers = ds0.map mark := by rw [hds0, hz]; simp
  have hb0 : z.b = w.heap.size := by rw [hz]
  -- the deferred call
  have hgv := he1.tmps t ht
  rw [eg] at hgv
  obtain ⟨xs', ys', eg', hx, hy⟩ := hgv.func_inv
  obtain ⟨dst, op, ty, pos, af, gd⟩ := o
  unfold isDef at ho
  split at ho
  · rename_i t' dargs dts hop
    simp only at hop
    cases hc : ((gd.isNone && dargs.isEmpty) && dst.isNone) with
    | false => simp only at ho; rw [hc] at ho; cases ho
    | true =>
      simp only at ho
      rw [hc] at ho
      simp only [cond_true, Option.some.injEq] at ho
      subst ho
      simp only [Bool.and_eq_true, Option.isNone_iff_eq_none] at hc
      obtain ⟨⟨hg, hda⟩, hdst⟩ := hc
      have hda : dargs = #[] := by simpa using hda
      subst hg hda hdst hop
      obtain ⟨d, hd⟩ : ∃ d : Deferred, d = { target := .fn (.func g) ys', args := xs' } := ⟨_, rfl⟩
      have hw : Region.wanted (⟨none, .defer ⟨.value (.tmp t'), #[], dts⟩, ty, pos, af, none⟩ : Oper) (yielded ops a1.tmps) = true := by simp [Region.wanted]
      unfold wpListIn
      rw [if_pos hw]
      refine ⟨fun _ _ => trivial, ?_⟩
      have hro : (fen z).round = none := hzr
      rw [hro, Oper.semAt_none]
      have hrun : (execOp a1.eval (⟨none, .defer ⟨.value (.tmp t'), #[], dts⟩, ty, pos, af, none⟩ : Oper)).run P w1 = .ok (.defer d) w1 := by
        simp [execOp, resolve, Act.eval, eg', Deferred.ofValue, hd, Sem.run_pure]
      rw [hrun]
      show rest.wpIn (fen z) 0 P _ { a1 with defers := d :: a1.defers } w1
      obtain ⟨z', hz'⟩ : ∃ z' : Rd, z' = ⟨none, w1.heap.size, d :: ds0.map mark⟩ := ⟨_, rfl⟩
      have hfen : fen z' = fen z := by unfold fen; rw [hzr, hz']
      have he1' : EnvFr z' ρ1 H1 w1 (args.length + (fn.ntmps - args.length)) A1 { a1 with defers := d :: a1.defers } := by
        refine ⟨⟨he1.size, he1.tmps⟩, ⟨⟨[], by rw [hz', hds0]; rfl, .nil, fun x hx => by simp at hx⟩, fun l hl => by rw [hz'] at hl; simp at hl, by rw [hz']; exact Nat.le_refl _⟩⟩
      have hwp := hrest z' ρ1 w1 _ hs1 he1'
      rw [hfen] at hwp
      refine wpIn_mono hwp ?_
      rintro e2 a2 w2 ⟨e2', ρ2, A2, H2, hq2, hst2, hs2, he2, hx2⟩
      obtain ⟨ds, hds, hnd, hdh⟩ := he2.fr.marks
      have hds : a2.defers = ds.map mark ++ (d :: ds0.map mark) := by rw [hds, hz']
      have hb' : z'.b = w1.heap.size := by rw [hz']
      -- how it leaves
      have key : ∀ (u u' : FrameMode) (r r' : Value), u ≠ .run → V ρ2 r r' → RecAs u u' r' → DDoes P g (xs.toList ++ ys.toList) H2 r (fun H2 => ∃ v, out = .ret v ∧ ares P (args.length + (fn.ntmps - args.length)) fn.results A2 H2 = some v ∧ Less H' H2) →
          LeavesInM (fen z) 0 P fn a2.tmps (fun e w' => ∃ ρ', OutRel ρ' out e ∧ St ρ H w ρ' H' w' ∧ Sim P ρ' H' w') a2.defers u w2 := by
        intro u u' r r' hu hr hrec hd2
        rw [hds]
        refine leaves_marks2 (w0 := w1) hu ds w2 hnd (fun x hx => ⟨hb' ▸ (hdh x hx).1, (hdh x hx).2⟩) hst2 hs2 (fun w3 hst3 hs3 => ?_)
        refine ⟨hu, .inr ⟨fun h => by simp [fen, Fence.wide] at h, .func g, ys', g, xs' ++ ys', by rw [hd], by rw [hd]; simp [invoke, go_sem, run_callFunc hen], fun _ _ => trivial, ?_⟩⟩
        have hargs : VL ρ2 (xs.toList ++ ys.toList) (xs'.toList ++ ys'.toList) := (hx.append hy).mono hst3.mono
        have hcall := hd2 z ρ2 w3 _ u u' r' hs3 hargs hr hrec
        rw [show (xs'.toList ++ ys'.toList).toArray = xs' ++ ys' by apply Array.ext'; simp] at hcall
        refine CallsDIn.mono hcall ?_
        rintro e u2 w4 ⟨rfl, ⟨v, rfl⟩, ρ4, H4, ⟨v4, hout, hares, hless⟩, hst4, hs4⟩
        have hset : settle u2 = .returning := by
          rcases hrec with ⟨_, h2, _⟩ | ⟨_, h2⟩
          · rw [h2]; rfl
          · rw [h2]; simp [settle]
        show LeavesInM (fen z) 0 P fn a2.tmps _ (ds0.map mark) (settle u2) w4
        rw [hset]
        have hstA := (hst01.trans hst3).trans hst4
        refine leaves_marks (by simp) ds0 w4 hnd0 (fun x hx => ⟨hb0 ▸ (hdh0 x hx).1, (((hdh0 x hx).2.step hst3).step hst4)⟩) hstA hs4 (fun w5 hst5 hs5 => ?_)
        obtain ⟨v', k1, k2⟩ := run_results hs5 (he2.toEnvRel.mono hst4.mono) (fn := fn) hares
        exact ⟨v', k1, ρ4, by rw [hout]; exact k2, hst5.less hless, hs5.less hless⟩
      cases e2' <;> cases e2 <;> simp only [ExRel] at hx2 <;> simp only [GEnd] at hq2
      case normal.normal => exact key .returning .returning .nilIface .nilIface (by simp) (.same _ rfl) (.inl ⟨rfl, rfl, rfl⟩) hq2
      case ret.ret => exact key .returning .returning .nilIface .nilIface (by simp) (.same _ rfl) (.inl ⟨rfl, rfl, rfl⟩) hq2
      case panic.panic v ch =>
        obtain ⟨v', hv, rfl⟩ := hx2
        exact key _ (.panicking [{ v := v', recovered := true }]) v v' (by simp) hv (.inr ⟨rfl, rfl⟩) hq2
  · cases ho
end
end Go.Ab
