/- A step over a part of the heap is one over all of it. -/
import Derived.Test.YtgbdkammehhchaaDoorAbEq
set_option linter.unusedVariables false
namespace Go.Ab
section
variable {P : Program}

/-- A heap by a function, up to a bound. -/
noncomputable def Heap.ofFn (next : Nat) (f : Nat → Option Blk) : Heap := ⟨next, (List.range next).foldl (fun t id => t.set id (f id)) .nil⟩

theorem foldl_get (f : Nat → Option Blk) : ∀ (l : List Nat) (t : Tr Blk) (id : Nat), (l.foldl (fun t id => t.set id (f id)) t).get id = if id ∈ l then f id else t.get id
  | [], t, id => by simp
  | x :: l, t, id => by
    simp only [List.foldl_cons]
    rw [foldl_get f l, Tr.get_set]
    by_cases h1 : id ∈ l
    · simp [h1]
    · by_cases h2 : id = x
      · subst h2; simp
      · simp [h1, h2]

theorem Heap.get_ofFn (next : Nat) (f : Nat → Option Blk) (id : Nat) : (Heap.ofFn next f).get id = if id < next then f id else none := by
  unfold Heap.ofFn Heap.get
  rw [foldl_get]
  simp [Tr.get_nil]

/-- Two renamings together, the second one first. -/
noncomputable def join (ρ ρ' : Ren) : Ren := fun id => match ρ' id with | some i => some i | none => ρ id
theorem join_left {ρ ρ' : Ren} {id : Nat} (h : ρ' id = none) : join ρ ρ' id = ρ id := by simp [join, h]
theorem join_right {ρ ρ' : Ren} {id : Nat} {i : Info} (h : ρ' id = some i) : join ρ ρ' id = some i := by simp [join, h]

/-- A step, without where new names lie. -/
structure St0 (ρ : Ren) (H : Heap) (w : World) (ρ' : Ren) (H' : Heap) (w' : World) : Prop where
  mono : Sub ρ ρ'
  next : H.next ≤ H'.next
  dead : ∀ id i, ρ id = some i → H.get id = none → H'.get id = none
  ro : ∀ id i b b', ρ id = some i → H.get id = some b → b.ro = true → H'.get id = some b' → b'.ro = true
  fresh : ∀ id i, ρ' id = some i → ρ id = none → w.heap.size ≤ i.at_.block ∨ ∃ id0 i0 b0, ρ id0 = some i0 ∧ i0.at_.block = i.at_.block ∧ H.get id0 = some b0 ∧ b0.ro = false
  os : w'.os = w.os
  tape : w'.tape = w.tape
  output : w'.output = w.output
  size : w.heap.size ≤ w'.heap.size
  frame : ∀ b, b < w.heap.size → (∀ id i bl, ρ id = some i → H.get id = some bl → bl.ro = false → i.at_.block ≠ b) → w'.heap[b]? = w.heap[b]?

theorem St.to0 {ρ ρ' : Ren} {H H' : Heap} {w w' : World} (h : St ρ H w ρ' H' w') : St0 ρ H w ρ' H' w' :=
  ⟨h.mono, h.next, h.dead, h.ro, fun id i a b => (h.fresh id i a b).2, h.os, h.tape, h.output, h.size, h.frame⟩
theorem St0.full {ρ ρ' : Ren} {H H' : Heap} {w w' : World} (h : St0 ρ H w ρ' H' w') (hn : ∀ id i, ρ' id = some i → ρ id = none → H.next ≤ id) : St ρ H w ρ' H' w' :=
  ⟨h.mono, h.next, h.dead, h.ro, fun id i a b => ⟨hn id i a b, h.fresh id i a b⟩, h.os, h.tape, h.output, h.size, h.frame⟩

theorem St0.owned {ρ : Ren} {H : Heap} {w : World} {ρ' : Ren} {H' : Heap} {w' : World} (h : St0 ρ H w ρ' H' w') {id : Nat} {i : Info} {bl : Blk}
    (h1 : ρ' id = some i) (h2 : H'.get id = some bl) (h3 : bl.ro = false) :
    w.heap.size ≤ i.at_.block ∨ ∃ id0 i0 b0, ρ id0 = some i0 ∧ i0.at_.block = i.at_.block ∧ H.get id0 = some b0 ∧ b0.ro = false := by
  cases hr : ρ id with
  | none => exact h.fresh id i h1 hr
  | some i0 =>
    have : i0 = i := by have := h.mono id i0 hr; rw [h1] at this; cases this; rfl
    subst this
    cases hg : H.get id with
    | none => rw [h.dead id i0 hr hg] at h2; cases h2
    | some b0 =>
      refine .inr ⟨id, i0, b0, hr, rfl, hg, ?_⟩
      cases hro : b0.ro with
      | false => rfl
      | true => rw [h.ro id i0 b0 bl hr hg hro h2] at h3; cases h3

theorem St0.trans {ρ ρ1 ρ2 : Ren} {H H1 H2 : Heap} {w w1 w2 : World} (a : St0 ρ H w ρ1 H1 w1) (b : St0 ρ1 H1 w1 ρ2 H2 w2) : St0 ρ H w ρ2 H2 w2 where
  mono := a.mono.trans b.mono
  next := Nat.le_trans a.next b.next
  dead := fun id i h h' => b.dead id i (a.mono _ _ h) (a.dead id i h h')
  ro := fun id i bl bl' h h1 h2 h3 => by
    cases hg : H1.get id with
    | none => rw [b.dead id i (a.mono _ _ h) hg] at h3; cases h3
    | some b1 => exact b.ro id i b1 bl' (a.mono _ _ h) hg (a.ro id i bl b1 h h1 h2 hg) h3
  fresh := fun id i h h' => by
    cases hr : ρ1 id with
    | some i1 =>
      have : i1 = i := by have := b.mono id i1 hr; rw [h] at this; cases this; rfl
      subst this
      exact a.fresh id i1 hr h'
    | none =>
      rcases b.fresh id i h hr with h2 | ⟨id0, i0, b0, e1, e2, e3, e4⟩
      · exact .inl (Nat.le_trans a.size h2)
      · rw [← e2]; exact a.owned e1 e3 e4
  os := b.os.trans a.os
  tape := b.tape.trans a.tape
  output := b.output.trans a.output
  size := Nat.le_trans a.size b.size
  frame := fun bk hb hn => by
    rw [b.frame bk (Nat.lt_of_lt_of_le hb a.size) ?_, a.frame bk hb hn]
    intro id i bl h1 h2 h3 e
    rcases a.owned h1 h2 h3 with h | ⟨id0, i0, b0, e1, e2, e3, e4⟩
    · omega
    · exact hn id0 i0 b0 e1 e3 e4 (e2.trans e)

/-- What becomes of the whole heap: what the part knew, and what is new, as the part says, else as it was. -/
noncomputable def joinF (ρ1 : Ren) (G h h' : Heap) (id : Nat) : Option Blk :=
  if id < h.next then (match ρ1 id, h.get id with | some _, some _ => h'.get id | _, _ => G.get id) else if id < h'.next then h'.get id else G.get id
noncomputable def joinH (ρ1 : Ren) (G h h' : Heap) : Heap := Heap.ofFn (max G.next h'.next) (joinF ρ1 G h h')
theorem joinH_next (ρ1 : Ren) (G h h' : Heap) : (joinH ρ1 G h h').next = max G.next h'.next := rfl
theorem joinH_get {ρ1 : Ren} {G h h' : Heap} {id : Nat} (hlt : id < max G.next h'.next) : (joinH ρ1 G h h').get id = joinF ρ1 G h h' id := by
  unfold joinH; rw [Heap.get_ofFn, if_pos hlt]
theorem joinF_part {ρ1 : Ren} {G h h' : Heap} {id : Nat} {i : Info} {b : Blk} (h1 : id < h.next) (h2 : ρ1 id = some i) (h3 : h.get id = some b) : joinF ρ1 G h h' id = h'.get id := by
  simp [joinF, h1, h2, h3]
theorem joinF_new {ρ1 : Ren} {G h h' : Heap} {id : Nat} (h1 : h.next ≤ id) (h2 : id < h'.next) : joinF ρ1 G h h' id = h'.get id := by
  simp [joinF, Nat.not_lt.2 h1, h2]
theorem joinF_far {ρ1 : Ren} {G h h' : Heap} {id : Nat} (h1 : h.next ≤ id) (h2 : h'.next ≤ id) : joinF ρ1 G h h' id = G.get id := by
  simp [joinF, Nat.not_lt.2 h1, Nat.not_lt.2 h2]
theorem joinF_rest {ρ1 : Ren} {G h h' : Heap} {id : Nat} (h1 : id < h.next) (h2 : ρ1 id = none ∨ h.get id = none) : joinF ρ1 G h h' id = G.get id := by
  unfold joinF
  rw [if_pos h1]
  rcases h2 with h2 | h2 <;> rw [h2] <;> (try (cases ρ1 id)) <;> rfl

/-- Which part a name of the whole belongs to. -/
theorem join_cases {ρ ρ1 ρ' : Ren} {G h h' : Heap} {w w' : World} (sub : Sub ρ1 ρ) (h1 : Sim P ρ1 h w)
    (newer : ∀ id, h.next ≤ id → id < h'.next → ρ id = none) (step : St ρ1 h w ρ' h' w') (h2 : Sim P ρ' h' w') {id : Nat} {i : Info} {b : Blk} (hi : join ρ ρ' id = some i) (hb : joinF ρ1 G h h' id = some b) :
    (ρ' id = some i ∧ h'.get id = some b ∧ ((∃ b0, ρ1 id = some i ∧ h.get id = some b0) ∨ (ρ1 id = none ∧ ρ id = none))) ∨ (ρ id = some i ∧ G.get id = some b ∧ (ρ1 id = none ∨ h.get id = none)) := by
  have hρ' : ∀ j, ρ' id = some j → i = j := fun j hj => by rw [join_right hj] at hi; cases hi; rfl
  by_cases c1 : id < h.next
  · cases e1 : ρ1 id with
    | none =>
      rw [joinF_rest c1 (.inl e1)] at hb
      have : ρ' id = none := by
        cases e : ρ' id with
        | none => rfl
        | some j => have := (step.fresh id j e e1).1; omega
      rw [join_left this] at hi
      exact .inr ⟨hi, hb, .inl rfl⟩
    | some i1 =>
      have hm := step.mono id i1 e1
      obtain rfl := hρ' i1 hm
      cases e2 : h.get id with
      | none =>
        rw [joinF_rest c1 (.inr e2)] at hb
        exact .inr ⟨sub id i e1, hb, .inr rfl⟩
      | some b0 =>
        rw [joinF_part c1 e1 e2] at hb
        exact .inl ⟨hm, hb, .inl ⟨b0, rfl, rfl⟩⟩
  · have e1 : ρ1 id = none := by
      cases e : ρ1 id with
      | none => rfl
      | some j => have := h1.dom id j e; omega
    by_cases c2 : id < h'.next
    · rw [joinF_new (by omega) c2] at hb
      have hn := newer id (by omega) c2
      cases e : ρ' id with
      | none => rw [join_left e, hn] at hi; cases hi
      | some j => obtain rfl := hρ' j e; exact .inl ⟨rfl, hb, .inr ⟨e1, hn⟩⟩
    · rw [joinF_far (by omega) (by omega)] at hb
      have : ρ' id = none := by
        cases e : ρ' id with
        | none => rfl
        | some j => have := h2.dom id j e; omega
      rw [join_left this] at hi
      exact .inr ⟨hi, hb, .inl e1⟩

theorem frame_step {ρ ρ1 ρ' : Ren} {G h h' : Heap} {w w' : World} (hG : Sim P ρ G w) (sub : Sub ρ1 ρ) (h1 : Sim P ρ1 h w) (agree : ∀ id i b, ρ1 id = some i → h.get id = some b → G.get id = some b)
    (newer : ∀ id, h.next ≤ id → id < h'.next → ρ id = none) (step : St ρ1 h w ρ' h' w') (h2 : Sim P ρ' h' w') :
    St0 ρ G w (join ρ ρ') (joinH ρ1 G h h') w' ∧ Sim P (join ρ ρ') (joinH ρ1 G h h') w' ∧
      (∀ id i b, ρ id = some i → G.get id = some b → (ρ1 id = none ∨ h.get id = none) → w'.heap[i.at_.block]? = w.heap[i.at_.block]?) := by
  have hmono : Sub ρ (join ρ ρ') := fun id i hi => by
    cases e : ρ' id with
    | none => rw [join_left e]; exact hi
    | some j =>
      rw [join_right e]
      cases e1 : ρ1 id with
      | some i1 => have := step.mono id i1 e1; rw [e] at this; cases this; have := sub id j e1; rw [hi] at this; exact this.symm
      | none =>
        have ha := (step.fresh id j e e1).1
        have hb := h2.dom id j e
        rw [newer id ha hb] at hi; cases hi
  have hmono' : Sub ρ' (join ρ ρ') := fun id i hi => join_right hi
  have hsame : ∀ id i b, ρ id = some i → G.get id = some b → (ρ1 id = none ∨ h.get id = none) → w'.heap[i.at_.block]? = w.heap[i.at_.block]? := fun id i b hi hb hc =>
    step.frame _ (hG.live id b i hb hi).lt (fun id1 i1 bl a1 a2 a3 a4 => by
      have hne : id1 ≠ id := fun e => by subst e; rcases hc with hc | hc; (rw [hc] at a1; cases a1); (rw [hc] at a2; cases a2)
      exact hG.sep id1 id bl b i1 i (agree id1 i1 bl a1 a2) hb (sub _ _ a1) hi a3 hne a4)
  have hdom : ∀ id i, join ρ ρ' id = some i → id < max G.next h'.next := fun id i hi => by
    cases e : ρ' id with
    | none => rw [join_left e] at hi; have := hG.dom id i hi; omega
    | some j => have := h2.dom id j e; omega
  refine ⟨⟨hmono, Nat.le_max_left _ _, fun id i hi hg => ?_, fun id i b b' hi hg hr hb => ?_, fun id i hi hn => ?_, step.os, step.tape, step.output, step.size, fun bk hbk hn => ?_⟩, ⟨hdom, fun id b i hb hi => ?_, fun id1 id2 b1 b2 i1 i2 g1 g2 g3 g4 g5 g6 => ?_, fun g hg => ?_⟩, hsame⟩
  · rw [joinH_get (hdom id i (hmono id i hi))]
    cases hb : joinF ρ1 G h h' id with
    | none => rfl
    | some b =>
      rcases join_cases sub h1 newer step h2 (hmono id i hi) hb with ⟨_, _, ⟨b0, e1, e2⟩ | ⟨_, e2⟩⟩ | ⟨_, e2, _⟩
      · rw [agree id i b0 e1 e2] at hg; cases hg
      · rw [hi] at e2; cases e2
      · rw [hg] at e2; cases e2
  · rw [joinH_get (hdom id i (hmono id i hi))] at hb
    rcases join_cases sub h1 newer step h2 (hmono id i hi) hb with ⟨_, e0, ⟨b0, e1, e2⟩ | ⟨_, e2⟩⟩ | ⟨_, e2, _⟩
    · have := agree id i b0 e1 e2
      rw [hg] at this; cases this
      exact step.ro id i b b' e1 e2 hr e0
    · rw [hi] at e2; cases e2
    · rw [hg] at e2; cases e2; exact hr
  · cases e : ρ' id with
    | none => rw [join_left e, hn] at hi; cases hi
    | some j =>
      rw [join_right e] at hi; cases hi
      have e1 : ρ1 id = none := by
        cases e1 : ρ1 id with
        | none => rfl
        | some i1 => rw [sub id i1 e1] at hn; cases hn
      rcases (step.fresh id i e e1).2 with hh | ⟨id0, i0, b0, a1, a2, a3, a4⟩
      · exact .inl hh
      · exact .inr ⟨id0, i0, b0, sub _ _ a1, a2, agree id0 i0 b0 a1 a3, a4⟩
  · exact step.frame bk hbk (fun id i bl a1 a2 a3 => hn id i bl (sub _ _ a1) (agree id i bl a1 a2) a3)
  · rw [joinH_get (hdom id i hi)] at hb
    rcases join_cases sub h1 newer step h2 hi hb with ⟨e0, e1, _⟩ | ⟨e0, e1, e2⟩
    · exact (h2.live id b i e1 e0).mono hmono' rfl
    · exact (hG.live id b i e1 e0).mono hmono (hsame id i b e0 e1 e2)
  · rw [joinH_get (hdom id1 i1 g3)] at g1
    rw [joinH_get (hdom id2 i2 g4)] at g2
    have far : ∀ {ida idb : Nat} {ia ib : Info} {ba bb : Blk}, ρ' ida = some ia → h'.get ida = some ba → ((∃ b0, ρ1 ida = some ia ∧ h.get ida = some b0) ∨ (ρ1 ida = none ∧ ρ ida = none)) → ρ idb = some ib → G.get idb = some bb → (ρ1 idb = none ∨ h.get idb = none) → (ba.ro = false ∨ bb.ro = false) → ia.at_.block ≠ ib.at_.block := by
      intro ida idb ia ib ba bb p1 p2 p3 q1 q2 q3 hro
      have hlt := (hG.live idb bb ib q2 q1).lt
      have hne : ∀ id0 i0 b0, ρ1 id0 = some i0 → h.get id0 = some b0 → id0 ≠ idb := fun id0 i0 b0 r1 r2 e => by subst e; rcases q3 with hc | hc; (rw [hc] at r1; cases r1); (rw [hc] at r2; cases r2)
      have own : (∃ id0 i0 b0, ρ1 id0 = some i0 ∧ i0.at_.block = ia.at_.block ∧ h.get id0 = some b0 ∧ b0.ro = false) → ia.at_.block ≠ ib.at_.block := fun ⟨id0, i0, b0, r1, r2, r3, r4⟩ => by
        rw [← r2]
        exact hG.sep id0 idb b0 bb i0 ib (agree id0 i0 b0 r1 r3) q2 (sub _ _ r1) q1 r4 (hne id0 i0 b0 r1 r3)
      rcases p3 with ⟨b0, r1, r2⟩ | ⟨r1, r2⟩
      · by_cases hb : bb.ro = false
        · exact fun e => hG.sep idb ida bb b0 ib ia q2 (agree ida ia b0 r1 r2) q1 (sub _ _ r1) hb (fun e => hne ida ia b0 r1 r2 e.symm) e.symm
        · have hba : ba.ro = false := hro.resolve_right hb
          rcases step.owned p1 p2 hba with hh | hh
          · omega
          · exact own hh
      · rcases (step.fresh ida ia p1 r1).2 with hh | hh
        · omega
        · exact own hh
    rcases join_cases sub h1 newer step h2 g3 g1 with ⟨p1, p2, p3⟩ | ⟨p1, p2, p3⟩
    · rcases join_cases sub h1 newer step h2 g4 g2 with ⟨q1, q2, q3⟩ | ⟨q1, q2, q3⟩
      · exact h2.sep id1 id2 b1 b2 i1 i2 p2 q2 p1 q1 g5 g6
      · exact far p1 p2 p3 q1 q2 q3 (.inl g5)
    · rcases join_cases sub h1 newer step h2 g4 g2 with ⟨q1, q2, q3⟩ | ⟨q1, q2, q3⟩
      · exact fun e => far q1 q2 q3 p1 p2 p3 (.inr g5) e.symm
      · exact hG.sep id1 id2 b1 b2 i1 i2 p2 q2 p1 q1 g5 g6
  · obtain ⟨j, hj, e⟩ := hG.glob g hg
    exact ⟨j, hmono _ _ hj, e⟩
end
end Go.Ab
