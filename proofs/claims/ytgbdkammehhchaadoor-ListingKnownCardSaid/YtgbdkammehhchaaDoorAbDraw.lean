/- Regions that draw their order: the text's order serves, by a check. -/
import Derived.Test.YtgbdkammehhchaaDoorAbFrame
set_option linter.unusedVariables false
namespace Go.Ab

/-! ### What is ordered: masks -/

noncomputable def maskOf (acc : List Nat) (es : List Edge) : Nat := es.foldl (fun s e => bif Region.binds .any e then s ||| (2 ^ e.on ||| acc.getD e.on 0) else s) 0

noncomputable def masks : List Oper → List Nat → List Nat
  | [], acc => acc
  | o :: l, acc => masks l (acc ++ [maskOf acc o.after.toList])

/-- A set of operations that holds with each one all that it waits for. -/
noncomputable def Closed (ops : Array Oper) (L : Nat → Prop) : Prop := ∀ (i : Nat), L i → ∀ o, ops[i]? = some o → ∀ e ∈ o.after, Region.binds .any e = true → L e.on

theorem maskOf_spec {ops : Array Oper} {L : Nat → Prop} (hL : Closed ops L) (acc : List Nat) (hacc : ∀ j m, acc[j]? = some m → L j → ∀ k, m.testBit k = true → L k) :
    ∀ (es : List Edge), (∀ e ∈ es, Region.binds .any e = true → L e.on) → ∀ k, (maskOf acc es).testBit k = true → L k := by
  intro es hes k hk
  have key : ∀ (es : List Edge) (s : Nat), (∀ e ∈ es, Region.binds .any e = true → L e.on) → (∀ k, s.testBit k = true → L k) → ∀ k, (es.foldl (fun s e => bif Region.binds .any e then s ||| (2 ^ e.on ||| acc.getD e.on 0) else s) s).testBit k = true → L k := by
    intro es
    induction es with
    | nil => intro s _ hs k hk; exact hs k hk
    | cons e es ih =>
      intro s he hs k hk
      simp only [List.foldl_cons] at hk
      refine ih _ (fun e' h' => he e' (by simp [h'])) ?_ k hk
      intro k' hk'
      cases hb : Region.binds .any e with
      | false => rw [hb] at hk'; exact hs k' hk'
      | true =>
        rw [hb] at hk'
        have hLe := he e (by simp) hb
        simp only [cond_true, Nat.testBit_or, Bool.or_eq_true] at hk'
        rcases hk' with h | h | h
        · exact hs k' h
        · rw [Nat.testBit_two_pow] at h
          have : e.on = k' := by simpa using h
          rw [← this]; exact hLe
        · cases hg : acc[e.on]? with
          | none => simp [List.getD, hg] at h
          | some m => simp only [List.getD, hg, Option.getD_some] at h; exact hacc e.on m hg hLe k' h
  exact key es 0 hes (fun k h => by simp at h) k hk

theorem masks_spec {ops : Array Oper} {L : Nat → Prop} (hL : Closed ops L) : ∀ (l : List Oper) (acc : List Nat), (∀ j o, l[j]? = some o → ops[acc.length + j]? = some o) → (∀ j m, acc[j]? = some m → L j → ∀ k, m.testBit k = true → L k) →
    ∀ j m, (masks l acc)[j]? = some m → L j → ∀ k, m.testBit k = true → L k
  | [], acc, _, hacc => hacc
  | o :: l, acc, hops, hacc => by
    simp only [masks]
    refine masks_spec hL l _ (fun j o' h => by have := hops (j + 1) o' (by simpa using h); simpa [Nat.add_assoc, Nat.add_comm 1 j] using this) ?_
    intro j m hj hLj k hk
    by_cases hlt : j < acc.length
    · rw [List.getElem?_append_left hlt] at hj; exact hacc j m hj hLj k hk
    · rw [List.getElem?_append_right (by omega)] at hj
      have hj0 : j - acc.length = 0 := by
        cases hd : j - acc.length with
        | zero => rfl
        | succ d => rw [hd] at hj; simp at hj
      rw [hj0] at hj
      simp at hj
      subst hj
      have hje : j = acc.length := by omega
      subst hje
      exact maskOf_spec hL acc hacc o.after.toList (fun e he hb => hL acc.length hLj o (by simpa using hops 0 o rfl) e (by simpa using he) hb) k hk

noncomputable def ordered (ms : List Nat) (i j : Nat) : Bool := Nat.testBit (ms.getD j 0) i

theorem ordered_spec {ops : Array Oper} {L : Nat → Prop} (hL : Closed ops L) {i j : Nat} (h : ordered (masks ops.toList []) i j = true) (hj : L j) : L i := by
  unfold ordered at h
  cases hg : (masks ops.toList [])[j]? with
  | none => simp [List.getD, hg] at h
  | some m =>
    simp only [List.getD, hg, Option.getD_some] at h
    exact masks_spec hL ops.toList [] (fun j o h => by simpa using h) (fun j m h => by simp at h) j m hg hj i h

theorem masks_lt {ops : Array Oper} (hed : ∀ (i : Nat) (o : Oper), ops[i]? = some o → ∀ e ∈ o.after, Region.binds .any e = true → e.on < i) : ∀ (l : List Oper) (acc : List Nat), (∀ (j : Nat) (o : Oper), l[j]? = some o → ops[acc.length + j]? = some o) → (∀ (j : Nat) (m : Nat), acc[j]? = some m → ∀ k, Nat.testBit m k = true → k < j) →
    ∀ (j : Nat) (m : Nat), (masks l acc)[j]? = some m → ∀ k, Nat.testBit m k = true → k < j
  | [], acc, _, hacc => hacc
  | o :: l, acc, hops, hacc => by
    simp only [masks]
    refine masks_lt hed l _ (fun j o' h => by have := hops (j + 1) o' (by simpa using h); simpa [Nat.add_assoc, Nat.add_comm 1 j] using this) ?_
    intro j m hj k hk
    by_cases hlt : j < acc.length
    · rw [List.getElem?_append_left hlt] at hj; exact hacc j m hj k hk
    · rw [List.getElem?_append_right (by omega)] at hj
      have hj0 : j - acc.length = 0 := by
        cases hd : j - acc.length with
        | zero => rfl
        | succ d => rw [hd] at hj; simp at hj
      rw [hj0] at hj
      simp at hj
      subst hj
      have hje : j = acc.length := by omega
      subst hje
      refine maskOf_spec (ops := ops) (L := fun k => k < acc.length) (fun i hi o' ho' e he hb => by have := hed i o' ho' e he hb; omega) acc (fun j m hjm hj k hk => by have := hacc j m hjm k hk; omega) o.after.toList (fun e he hb => hed acc.length o (by simpa using hops 0 o rfl) e (by simpa using he) hb) k hk

theorem ordered_lt {ops : Array Oper} (hed : ∀ (i : Nat) (o : Oper), ops[i]? = some o → ∀ e ∈ o.after, Region.binds .any e = true → e.on < i) {i j : Nat} (h : ordered (masks ops.toList []) i j = true) : i < j := by
  unfold ordered at h
  cases hg : (masks ops.toList [])[j]? with
  | none => simp [List.getD, hg] at h
  | some m =>
    simp only [List.getD, hg, Option.getD_some] at h
    exact masks_lt hed ops.toList [] (fun j o h => by simpa using h) (fun j m h => by simp at h) j m hg i h

/-! ### The check by text -/

/-- The slots that an operation looks at. -/
noncomputable def looks (ops : Array Oper) (o : Oper) : List Nat :=
  (o.op.operands.toList.filterMap fun | .tmp t => some t | _ => none) ++ (match o.guard with | some (j, _) => (guardSlot ops j).toList | none => [])

/-- Each edge leads back; whoever writes a slot that another one looks at or writes is ordered with it; what acts on memory is in one order. -/
noncomputable def drawOk (ops : Array Oper) (gen : Nat → Bool) : Bool :=
  let ms := masks ops.toList []
  (List.range ops.size).all fun j =>
    match ops[j]? with
    | none => true
    | some o =>
      o.after.all (fun e => !(Region.binds .any e) || Nat.blt e.on j) &&
      (match o.op with | .select .. => false | _ => true) &&
      (List.range ops.size).all fun i =>
        match ops[i]? with
        | none => true
        | some oi =>
          (Nat.beq i j || (match oi.dst with | some t => !((looks ops o).contains t || o.dst == some t) | none => true) || (if i < j then ordered ms i j else ordered ms j i)) &&
          (!(gen i && gen j && Nat.blt i j) || ordered ms i j)

/-! ### Values below a bound -/

noncomputable def restr (ρ : Ren) (m : Nat) : Ren := fun id => if id < m then ρ id else none
theorem restr_sub (ρ : Ren) (m : Nat) : Sub (restr ρ m) ρ := fun id i h => by
  unfold restr at h; split at h
  · exact h
  · cases h
theorem restr_le {ρ ρ' : Ren} {m m' : Nat} (hs : Sub ρ ρ') (h : m ≤ m') : Sub (restr ρ m) (restr ρ' m') := fun id i hi => by
  unfold restr at hi ⊢
  split at hi
  · rw [if_pos (by omega)]; exact hs id i hi
  · cases hi
theorem restr_some {ρ : Ren} {m id : Nat} {i : Info} (h : restr ρ m id = some i) : id < m ∧ ρ id = some i := by
  unfold restr at h; split at h
  · exact ⟨‹_›, h⟩
  · cases h
theorem restr_mk {ρ : Ren} {m id : Nat} {i : Info} (h : id < m) (h' : ρ id = some i) : restr ρ m id = some i := by
  unfold restr; rw [if_pos h]; exact h'

noncomputable def belowV (m : Nat) : Nat → Value → Bool
  | 0, v => plain v
  | f + 1, v => match v with
    | .pointer (some a) => Nat.blt a.block m
    | .slice (some a) _ _ => Nat.blt a.block m
    | .map (some r) => Nat.blt r m
    | .func fn xs ys => noYield fn && xs.all (belowV m f) && ys.all (belowV m f)
    | .iface _ v => belowV m f v
    | .agg xs => xs.all (belowV m f)
    | .tuple xs => xs.all (belowV m f)
    | v => plain v

theorem belowV_V {ρ : Ren} {m : Nat} : ∀ (f : Nat) {v v' : Value}, V ρ v v' → belowV m f v = true → V (restr ρ m) v v' := by
  intro f
  induction f with
  | zero =>
    intro v v' h hb
    rw [h.plain_eq hb]; exact .same _ hb
  | succ f ih =>
    intro v v' h hb
    have arr : ∀ {xs xs' : Array Value}, xs.all (belowV m f) = true → (∀ (j : Nat) x x', xs[j]? = some x → xs'[j]? = some x' → V ρ x x') → ∀ (j : Nat) x x', xs[j]? = some x → xs'[j]? = some x' → V (restr ρ m) x x' := fun ha hr j x x' e e' =>
      ih (hr j x x' e e') (Array.all_eq_true_iff_forall_mem.1 ha x (Array.mem_of_getElem? e))
    cases h with
    | same v hp => exact .same v hp
    | ptr id off i h => exact .ptr id off i (restr_mk (by simpa [belowV] using hb) h)
    | slice id off len cap cap' i a' h h1 h2 h0 h3 h4 => exact .slice id off len cap cap' i a' (restr_mk (by simpa [belowV] using hb) h) h1 h2 h0 h3 h4
    | map id i h => exact .map id i (restr_mk (by simpa [belowV] using hb) h)
    | func fn xs ys xs' ys' hn h1 h2 h3 h4 =>
      simp only [belowV, Bool.and_eq_true] at hb
      exact .func fn xs ys xs' ys' hn h1 h2 (arr hb.1.2 h3) (arr hb.2 h4)
    | yield l i h => simp [belowV, noYield] at hb
    | iface t v v' h => exact .iface t v v' (ih h (by simpa [belowV] using hb))
    | agg xs xs' h1 h2 => exact .agg xs xs' h1 (arr (by simpa only [belowV] using hb) h2)
    | tuple xs xs' h1 h2 => exact .tuple xs xs' h1 (arr (by simpa only [belowV] using hb) h2)

/-! ### The run in the text's order -/

inductive Cls where
  | pure
  | load
  | alloc (b : Blk)
  | gen

noncomputable def isGen : Cls → Bool
  | .gen => true
  | _ => false

/-- Whether an operation runs. -/
noncomputable def wantedA (n : Nat) (ops : Array Oper) (A : Env) (o : Oper) : Option Bool :=
  match o.guard with
  | none => some true
  | some (j, want) => match guardSlot ops j with
    | some t => if t < n then (match A t with | .bool b => some (b == want) | .tuple _ => some false | _ => none) else none
    | none => none

section
variable (P : Program) (n : Nat) (ops : Array Oper) (As : Nat → Env) (Hs : Nat → Heap) (vs : Nat → Value) (cls : Nat → Cls)

noncomputable def StepOk (i : Nat) (o : Oper) : Prop :=
  (wantedA n ops (As i) o = some false ∧ vs i = undef ∧ Hs (i + 1) = Hs i ∧ cls i = .pure) ∨
  (wantedA n ops (As i) o = some true ∧ match cls i with
    | .pure => Hs (i + 1) = Hs i ∧ ∀ h, OpDoes P o (As i) h (vs i) h
    | .load => Hs (i + 1) = Hs i ∧ ∃ t x a, o.op = .load t x ∧ ev (As i) x = .pointer (some a) ∧ aload P t a (Hs i) = some (vs i) ∧
        ∀ k, k < ops.size → isGen (cls k) = true → ordered (masks ops.toList []) i k = false → ordered (masks ops.toList []) k i = false → aload P t a (Hs k) = some (vs i) ∧ aload P t a (Hs (k + 1)) = some (vs i) ∧ belowV (Hs i).next 6 (vs i) = true
    | .alloc b => Hs (i + 1) = (Hs i).push b ∧ (∀ h, h.next = (Hs i).next → OpDoes P o (As i) h (vs i) (h.push b)) ∧
        ∀ k, k < ops.size → i < k → isGen (cls k) = true → ordered (masks ops.toList []) i k = false → (Hs (k + 1)).get (Hs i).next = (Hs k).get (Hs i).next
    | .gen => OpDoes P o (As i) (Hs i) (vs i) (Hs (i + 1)))

structure Facts : Prop where
  env : ∀ (i : Nat) (o : Oper), ops[i]? = some o → As (i + 1) = updO (As i) o.dst (vs i)
  next : ∀ i, i < ops.size → (Hs i).next ≤ (Hs (i + 1)).next
  ok : ∀ (i : Nat) (o : Oper), ops[i]? = some o → okOp P n o = true
  step : ∀ (i : Nat) (o : Oper), ops[i]? = some o → StepOk P n ops As Hs vs cls i o
  check : drawOk ops (fun i => isGen (cls i)) = true
end

section
variable {P : Program} {n : Nat} {ops : Array Oper} {As : Nat → Env} {Hs : Nat → Heap} {vs : Nat → Value} {cls : Nat → Cls}

theorem Facts.next_le (F : Facts P n ops As Hs vs cls) {i j : Nat} (hij : i ≤ j) (hj : j ≤ ops.size) : (Hs i).next ≤ (Hs j).next := by
  induction j with
  | zero => obtain rfl : i = 0 := by omega
            exact Nat.le_refl _
  | succ j ih =>
    by_cases e : i = j + 1
    · subst e; exact Nat.le_refl _
    · exact Nat.le_trans (ih (by omega) (by omega)) (F.next j (by omega))

/-- What the check says of two operations. -/
theorem Facts.checked (F : Facts P n ops As Hs vs cls) {i j : Nat} {oi oj : Oper} (hi : ops[i]? = some oi) (hj : ops[j]? = some oj) :
    (∀ e ∈ oj.after, Region.binds .any e = true → e.on < j) ∧ (∀ cs b, oj.op ≠ .select cs b) ∧
    (i ≠ j → ∀ t, oi.dst = some t → (t ∈ looks ops oj ∨ oj.dst = some t) → (i < j → ordered (masks ops.toList []) i j = true) ∧ (j < i → ordered (masks ops.toList []) j i = true)) ∧
    (isGen (cls i) = true → isGen (cls j) = true → i < j → ordered (masks ops.toList []) i j = true) := by
  have hil : i < ops.size := (Array.getElem?_eq_some_iff.1 hi).1
  have hjl : j < ops.size := (Array.getElem?_eq_some_iff.1 hj).1
  have hc := F.check
  unfold drawOk at hc
  simp only [List.all_eq_true, List.mem_range] at hc
  have h1 := hc j hjl
  rw [hj] at h1
  simp only [Bool.and_eq_true, List.all_eq_true, List.mem_range] at h1
  obtain ⟨⟨ha, hs⟩, hp⟩ := h1
  have h2 := hp i hil
  rw [hi] at h2
  simp only [Bool.and_eq_true] at h2
  refine ⟨fun e he hb => ?_, fun cs b e => ?_, fun hne t ht hl => ?_, fun g1 g2 hlt => ?_⟩
  · have := Array.all_eq_true_iff_forall_mem.1 ha e he
    simpa [hb] using this
  · rw [e] at hs; cases hs
  · have h3 := h2.1
    rw [ht] at h3
    have hl' : ((looks ops oj).contains t || oj.dst == some t) = true := by
      rcases hl with h | h
      · simp [h]
      · simp [h]
    have hne' : Nat.beq i j = false := by rw [nbeq]; simpa using hne
    simp only [hl', hne', Bool.not_true, Bool.false_or] at h3
    refine ⟨fun h => by rw [if_pos h] at h3; exact h3, fun h => by rw [if_neg (by omega)] at h3; exact h3⟩
  · have h3 := h2.2
    have hb : Nat.blt i j = true := by simpa using hlt
    simpa [g1, g2, hb] using h3

/-- A step that does not act on memory leaves a block as it is. -/
theorem Facts.quiet (F : Facts P n ops As Hs vs cls) {k : Nat} {o : Oper} (hk : ops[k]? = some o) (hg : isGen (cls k) = false) {id : Nat} (hid : id < (Hs k).next) : (Hs (k + 1)).get id = (Hs k).get id := by
  rcases F.step k o hk with ⟨_, _, h, _⟩ | ⟨_, h⟩
  · rw [h]
  · cases hc : cls k with
    | pure => rw [hc] at h; simp only at h; rw [h.1]
    | load => rw [hc] at h; simp only at h; rw [h.1]
    | alloc b => rw [hc] at h; simp only at h; rw [h.1, Heap.get_push, if_neg (by omega)]
    | gen => rw [hc] at hg; cases hg

noncomputable def L (listed : Array Bool) (i : Nat) : Prop := listed.getD i false = true

structure Inv (P : Program) (n : Nat) (ops : Array Oper) (As : Nat → Env) (Hs : Nat → Heap) (cls : Nat → Cls) (d0 : List Deferred) (ρ0 : Ren) (w0 : World) (listed : Array Bool) (a : Act) (w : World) (ρ : Ren) (G : Heap) : Prop where
  size : listed.size = ops.size
  closed : Closed ops (L listed)
  st : St0 ρ0 (Hs 0) w0 ρ G w
  sim : Sim P ρ G w
  dom : ∀ id i, ρ id = some i → ρ0 id = some i ∨ ∃ k, k < ops.size ∧ L listed k ∧ (Hs k).next ≤ id ∧ id < (Hs (k + 1)).next
  dom0 : ∀ id i, ρ0 id = some i → id < (Hs 0).next
  glob0 : ∀ g, g < P.globals.size → ∃ i, ρ0 g = some i ∧ i.at_ = ⟨g, 0, none⟩
  blk : ∀ id i, ρ id = some i → ∃ q, q ≤ ops.size ∧ id < (Hs q).next ∧ G.get id = (Hs q).get id ∧ (∀ b, G.get id = some b → BlkRel P (restr ρ (Hs q).next) i w b) ∧
    (∀ k, k < ops.size → isGen (cls k) = true → L listed k → k < q ∨ (Hs (k + 1)).get id = (Hs k).get id) ∧
    (∀ k, k < ops.size → isGen (cls k) = true → ¬ L listed k → q ≤ k ∨ (Hs (k + 1)).next ≤ id) ∧
    (q = 0 ∨ ∃ k, k < ops.size ∧ L listed k ∧ q = k + 1 ∧ (isGen (cls k) = true ∨ (Hs k).next ≤ id))
  defers : a.defers = d0
  tsize : a.tmps.size = n
  tmps : ∀ t, t < n → ∃ r, r ≤ ops.size ∧ V (restr ρ (Hs r).next) (As r t) (a.tmps.getD t undef) ∧
    (∀ (k : Nat) (o : Oper), ops[k]? = some o → o.dst = some t → L listed k → k < r) ∧ (∀ (k : Nat) (o : Oper), ops[k]? = some o → o.dst = some t → ¬ L listed k → r ≤ k) ∧
    (r = 0 ∨ ∃ (k : Nat) (o : Oper), ops[k]? = some o ∧ o.dst = some t ∧ L listed k ∧ r = k + 1)

section
variable {d0 : List Deferred} {ρ0 : Ren} {w0 : World} {listed : Array Bool} {a : Act} {w : World} {ρ : Ren} {G : Heap}

/-- What is ready, and what waits for it. -/
structure Rdy (ops : Array Oper) (listed : Array Bool) (i : Nat) (o : Oper) : Prop where
  at_ : ops[i]? = some o
  not : ¬ L listed i
  pre : ∀ k, ordered (masks ops.toList []) k i = true → L listed k
  post : ∀ k, ordered (masks ops.toList []) i k = true → ¬ L listed k
  ed : ∀ e ∈ o.after, Region.binds .any e = true → L listed e.on

theorem env_same (F : Facts P n ops As Hs vs cls) {t : Nat} : ∀ {i j : Nat}, i ≤ j → j ≤ ops.size → (∀ (k : Nat) (o : Oper), i ≤ k → k < j → ops[k]? = some o → o.dst ≠ some t) → As j t = As i t := by
  intro i j
  induction j with
  | zero => intro h _ _; obtain rfl : i = 0 := by omega
            rfl
  | succ j ih =>
    intro h hj hw
    by_cases e : i = j + 1
    · subst e; rfl
    · have hlt : j < ops.size := by omega
      have ho : ops[j]? = some ops[j] := Array.getElem?_eq_getElem hlt
      have hne := hw j ops[j] (by omega) (by omega) ho
      rw [F.env j _ ho]
      have : updO (As j) ops[j].dst (vs j) t = As j t := by
        cases hd : ops[j].dst with
        | none => rfl
        | some d =>
          have : t ≠ d := fun e => hne (by rw [hd, e])
          exact upd_ne _ _ this
      rw [this]
      exact ih (by omega) (by omega) (fun k o h1 h2 h3 => hw k o h1 (by omega) h3)

/-- An operand's slot holds, at any time when the operation is ready, what it holds in the text's order. -/
theorem Inv.slot (F : Facts P n ops As Hs vs cls) (I : Inv P n ops As Hs cls d0 ρ0 w0 listed a w ρ G) {i : Nat} {o : Oper} (R : Rdy ops listed i o) {t : Nat} (ht : t < n) (hl : t ∈ looks ops o) :
    V (restr ρ (Hs i).next) (As i t) (a.tmps.getD t undef) := by
  have hil : i < ops.size := (Array.getElem?_eq_some_iff.1 R.at_).1
  obtain ⟨r, hr, hv, h1, h2, h3⟩ := I.tmps t ht
  have hri : r ≤ i := by
    rcases h3 with rfl | ⟨k, ok, hk, hd, hL, rfl⟩
    · omega
    · by_cases hki : k < i
      · omega
      · exfalso
        have hne : k ≠ i := fun e => R.not (e ▸ hL)
        have := ((F.checked hk R.at_).2.2.1 hne t hd (.inl hl)).2 (by omega)
        exact R.post k this hL
  have hsame : As i t = As r t := env_same F hri (by omega) (fun k ok hk1 hk2 hk hd => by
    have hord := ((F.checked hk R.at_).2.2.1 (by omega) t hd (.inl hl)).1 hk2
    have := h1 k ok hk hd (R.pre k hord)
    omega)
  rw [hsame]
  exact hv.mono (restr_le (.refl ρ) (F.next_le hri (by omega)))

theorem Inv.operands (F : Facts P n ops As Hs vs cls) (I : Inv P n ops As Hs cls d0 ρ0 w0 listed a w ρ G) {i : Nat} {o : Oper} (R : Rdy ops listed i o) : OpRel (restr ρ (Hs i).next) o (As i) a := by
  intro x hx
  have hok := F.ok i o R.at_
  simp only [okOp, Bool.and_eq_true] at hok
  have hx' := Array.all_eq_true_iff_forall_mem.1 hok.2 x hx
  cases x with
  | tmp t =>
    refine I.slot F R (by simpa [okArg] using hx') ?_
    unfold looks
    refine List.mem_append_left _ (List.mem_filterMap.2 ⟨.tmp t, by simpa using hx, rfl⟩)
  | const v => exact .closed hx'
  | global gg =>
    have hgl : gg < P.globals.size := by simpa [okArg] using hx'
    obtain ⟨j, hj0, e⟩ := I.glob0 gg hgl
    have hj := I.st.mono gg j hj0
    have hlt : gg < (Hs 0).next := I.dom0 gg j hj0
    have hil : i < ops.size := (Array.getElem?_eq_some_iff.1 R.at_).1
    have := V.ptr (ρ := restr ρ (Hs i).next) gg 0 j (restr_mk (Nat.lt_of_lt_of_le hlt (F.next_le (Nat.zero_le _) (by omega))) hj)
    rw [e] at this
    exact this
  | func f => exact .func _ _ _ _ _ rfl rfl rfl (fun j x x' h => by simp at h) (fun j x x' h => by simp at h)

theorem L_set {listed : Array Bool} {i k : Nat} (hi : i < listed.size) : L (listed.setIfInBounds i true) k ↔ k = i ∨ L listed k := by
  unfold L
  by_cases e : k = i
  · subst e; simp [Array.getD_eq_getD_getElem?, hi]
  · rw [Array.getD_eq_getD_getElem?, Array.getElem?_setIfInBounds_ne (by omega), ← Array.getD_eq_getD_getElem?]
    simp [e]

theorem Inv.after (F : Facts P n ops As Hs vs cls) (I : Inv P n ops As Hs cls d0 ρ0 w0 listed a w ρ G) {i : Nat} {o : Oper} (R : Rdy ops listed i o) {ρ2 : Ren} {G2 : Heap} {w' : World} {v' : Value}
    (hst : St0 ρ G w ρ2 G2 w') (hsim : Sim P ρ2 G2 w') (hv : V (restr ρ2 (Hs (i + 1)).next) (vs i) v') (hdom : ∀ id j, ρ2 id = some j → ρ id = some j ∨ ((Hs i).next ≤ id ∧ id < (Hs (i + 1)).next))
    (hblk : ∀ id j, ρ2 id = some j → ∃ q, q ≤ ops.size ∧ id < (Hs q).next ∧ G2.get id = (Hs q).get id ∧ (∀ b, G2.get id = some b → BlkRel P (restr ρ2 (Hs q).next) j w' b) ∧
      (∀ k, k < ops.size → isGen (cls k) = true → (k = i ∨ L listed k) → k < q ∨ (Hs (k + 1)).get id = (Hs k).get id) ∧
      (∀ k, k < ops.size → isGen (cls k) = true → k ≠ i → ¬ L listed k → q ≤ k ∨ (Hs (k + 1)).next ≤ id) ∧
      (q = 0 ∨ ∃ k, k < ops.size ∧ (k = i ∨ L listed k) ∧ q = k + 1 ∧ (isGen (cls k) = true ∨ (Hs k).next ≤ id))) :
    Inv P n ops As Hs cls d0 ρ0 w0 (listed.setIfInBounds i true) (a.put o.dst v') w' ρ2 G2 := by
  have hil : i < ops.size := (Array.getElem?_eq_some_iff.1 R.at_).1
  have hls : i < listed.size := by rw [I.size]; exact hil
  have hok := okOp_dst (F.ok i o R.at_)
  refine ⟨by simp [I.size], fun k hk ok hok' e he hb => ?_, I.st.trans hst, hsim, fun id j hj => ?_, I.dom0, I.glob0, fun id j hj => ?_, ?_, ?_, fun t ht => ?_⟩
  · rw [L_set hls] at hk ⊢
    rcases hk with rfl | hk
    · rw [R.at_] at hok'; cases hok'
      exact .inr (R.ed e he hb)
    · exact .inr (I.closed k hk ok hok' e he hb)
  · rcases hdom id j hj with h | ⟨h1, h2⟩
    · rcases I.dom id j h with h0 | ⟨k, k1, k2, k3, k4⟩
      · exact .inl h0
      · exact .inr ⟨k, k1, (L_set hls).2 (.inr k2), k3, k4⟩
    · exact .inr ⟨i, hil, (L_set hls).2 (.inl rfl), h1, h2⟩
  · obtain ⟨q, q1, q2, q3, q4, q5, q6, q7⟩ := hblk id j hj
    refine ⟨q, q1, q2, q3, q4, fun k hk hg hl => q5 k hk hg ((L_set hls).1 hl), fun k hk hg hl => ?_, ?_⟩
    · rw [L_set hls] at hl
      exact q6 k hk hg (fun e => hl (.inl e)) (fun e => hl (.inr e))
    · rcases q7 with h | ⟨k, k1, k2, k3, k4⟩
      · exact .inl h
      · exact .inr ⟨k, k1, (L_set hls).2 k2, k3, k4⟩
  · have := I.defers
    cases o.dst <;> exact this
  · have := I.tsize
    cases o.dst <;> simp [Act.put, this]
  · by_cases hd : o.dst = some t
    · refine ⟨i + 1, by omega, ?_, fun k ok hk hdk hl => ?_, fun k ok hk hdk hl => ?_, .inr ⟨i, o, R.at_, hd, (L_set hls).2 (.inl rfl), rfl⟩⟩
      · rw [F.env i o R.at_, hd]
        simp only [updO, upd_same, Act.put]
        rw [Array.getD_eq_getD_getElem?, Array.getElem?_setIfInBounds_self_of_lt (by rw [I.tsize]; exact ht)]
        exact hv
      · rw [L_set hls] at hl
        rcases hl with rfl | hl
        · omega
        · by_cases hlt : k < i + 1
          · exact hlt
          · have := ((F.checked hk R.at_).2.2.1 (by omega) t hdk (.inr hd)).2 (by omega)
            exact absurd hl (R.post k this)
      · rw [L_set hls] at hl
        by_cases hlt : i + 1 ≤ k
        · exact hlt
        · have hne : k ≠ i := fun e => hl (.inl e)
          have := ((F.checked hk R.at_).2.2.1 hne t hdk (.inr hd)).1 (by omega)
          exact absurd (.inr (R.pre k this)) hl
    · obtain ⟨r, r1, r2, r3, r4, r5⟩ := I.tmps t ht
      refine ⟨r, r1, ?_, fun k ok hk hdk hl => ?_, fun k ok hk hdk hl => r4 k ok hk hdk (fun h => hl ((L_set hls).2 (.inr h))), ?_⟩
      · have hsame : (a.put o.dst v').tmps.getD t undef = a.tmps.getD t undef := by
          cases hdd : o.dst with
          | none => rfl
          | some d =>
            have : d ≠ t := fun e => hd (by rw [hdd, e])
            simp only [Act.put]
            rw [Array.getD_eq_getD_getElem?, Array.getElem?_setIfInBounds_ne this, ← Array.getD_eq_getD_getElem?]
        rw [hsame]
        exact r2.mono (restr_le hst.mono (Nat.le_refl _))
      · rw [L_set hls] at hl
        rcases hl with rfl | hl
        · rw [R.at_] at hk; cases hk; exact absurd hdk hd
        · exact r3 k ok hk hdk hl
      · rcases r5 with h | ⟨k, ok, k1, k2, k3, k4⟩
        · exact .inl h
        · exact .inr ⟨k, ok, k1, k2, (L_set hls).2 (.inr k3), k4⟩

/-- A step that touches nothing that is known. -/
theorem Inv.still (F : Facts P n ops As Hs vs cls) (I : Inv P n ops As Hs cls d0 ρ0 w0 listed a w ρ G) {i : Nat} {o : Oper} (R : Rdy ops listed i o) (hg : isGen (cls i) = false) {v' : Value} (hv : V (restr ρ (Hs (i + 1)).next) (vs i) v') :
    Inv P n ops As Hs cls d0 ρ0 w0 (listed.setIfInBounds i true) (a.put o.dst v') w ρ G := by
  refine I.after F R ⟨.refl ρ, Nat.le_refl _, fun _ _ _ h => h, fun _ _ b b' _ h hr h' => (by rw [h] at h'; cases h'; exact hr), fun id i h h' => (by rw [h'] at h; cases h), rfl, rfl, rfl, Nat.le_refl _, fun _ _ _ => rfl⟩ I.sim hv (fun id j h => .inl h) (fun id j hj => ?_)
  obtain ⟨q, q1, q2, q3, q4, q5, q6, q7⟩ := I.blk id j hj
  refine ⟨q, q1, q2, q3, q4, fun k hk hgk hl => ?_, fun k hk hgk _ hl => q6 k hk hgk hl, ?_⟩
  · rcases hl with rfl | hl
    · rw [hg] at hgk; cases hgk
    · exact q5 k hk hgk hl
  · rcases q7 with h | ⟨k, k1, k2, k3, k4⟩
    · exact .inl h
    · exact .inr ⟨k, k1, .inr k2, k3, k4⟩

/-- A step over a part of what is known. -/
theorem Inv.frame (F : Facts P n ops As Hs vs cls) (I : Inv P n ops As Hs cls d0 ρ0 w0 listed a w ρ G) {i : Nat} {o : Oper} (R : Rdy ops listed i o) {h h' : Heap} (hn : h.next = (Hs i).next) (hn' : h'.next = (Hs (i + 1)).next)
    (hs1 : Sim P (restr ρ (Hs i).next) h w) (agree : ∀ id j b, restr ρ (Hs i).next id = some j → h.get id = some b → G.get id = some b)
    (hpart : ∀ id j b, restr ρ (Hs i).next id = some j → h.get id = some b → h'.get id = (Hs (i + 1)).get id ∧ isGen (cls i) = true)
    (hnew : ∀ id, (Hs i).next ≤ id → id < (Hs (i + 1)).next → h'.get id = (Hs (i + 1)).get id ∧ ∀ k, k < ops.size → i < k → isGen (cls k) = true → L listed k → (Hs (k + 1)).get id = (Hs k).get id)
    (hrest : isGen (cls i) = true → ∀ id j, ρ id = some j → id < (Hs i).next → h.get id = none → (Hs i).get id = none)
    {ρ' : Ren} {w' : World} {v' : Value} (hv : V ρ' (vs i) v') (hst : St (restr ρ (Hs i).next) h w ρ' h' w') (hs' : Sim P ρ' h' w') (hdead : isGen (cls i) = true → ∀ id j, restr ρ (Hs i).next id = some j → (Hs i).get id = none → (Hs (i + 1)).get id = none) :
    ∃ ρ2 G2, Inv P n ops As Hs cls d0 ρ0 w0 (listed.setIfInBounds i true) (a.put o.dst v') w' ρ2 G2 := by
  have hil : i < ops.size := (Array.getElem?_eq_some_iff.1 R.at_).1
  have hnewer : ∀ id, h.next ≤ id → id < h'.next → ρ id = none := fun id h1 h2 => by
    cases e : ρ id with
    | none => rfl
    | some j =>
      rw [hn] at h1; rw [hn'] at h2
      exfalso
      rcases I.dom id j e with h0 | ⟨k, k1, k2, k3, k4⟩
      · have := I.dom0 id j h0
        have := F.next_le (Nat.zero_le i) (by omega)
        omega
      · have hne : k ≠ i := fun e => R.not (e ▸ k2)
        rcases Nat.lt_or_gt_of_ne hne with hlt | hgt
        · have := F.next_le (show k + 1 ≤ i by omega) (by omega); omega
        · have := F.next_le (show i + 1 ≤ k by omega) (by omega); omega
  obtain ⟨t1, t2, t3⟩ := frame_step I.sim (restr_sub ρ _) hs1 agree hnewer hst hs'
  have hsubJ : Sub ρ' (restr (join ρ ρ') (Hs (i + 1)).next) := fun id j hj => restr_mk (by rw [← hn']; exact hs'.dom id j hj) (join_right hj)
  refine ⟨_, _, I.after F R t1 t2 (hv.mono hsubJ) (fun id j hj => ?_) (fun id j hj => ?_)⟩
  · cases e : ρ' id with
    | none => rw [join_left e] at hj; exact .inl hj
    | some j' =>
      rw [join_right e] at hj; cases hj
      cases e1 : restr ρ (Hs i).next id with
      | some j1 =>
        have := hst.mono id j1 e1
        rw [e] at this; cases this
        exact .inl (restr_some e1).2
      | none =>
        have h1 := (hst.fresh id j e e1).1
        have h2 := hs'.dom id j e
        exact .inr ⟨by omega, by omega⟩
  · have hlt2 : id < max G.next h'.next := t2.dom id j hj
    have hgen_lt : ∀ k, k < ops.size → isGen (cls i) = true → isGen (cls k) = true → L listed k → k < i := fun k hk g1 g2 hl => by
      rcases Nat.lt_trichotomy k i with h | h | h
      · exact h
      · exact absurd (h ▸ hl) R.not
      · have := (F.checked R.at_ (Array.getElem?_eq_getElem hk)).2.2.2 g1 g2 h
        exact absurd hl (R.post k this)
    by_cases hpt : ∃ j1 b, restr ρ (Hs i).next id = some j1 ∧ h.get id = some b
    · obtain ⟨j1, b, e1, e2⟩ := hpt
      have hm := hst.mono id j1 e1
      have : j1 = j := by rw [join_right hm] at hj; cases hj; rfl
      subst this
      obtain ⟨p1, p2⟩ := hpart id j1 b e1 e2
      have hlt := (restr_some e1).1
      have hG : (joinH (restr ρ (Hs i).next) G h h').get id = h'.get id := by rw [joinH_get hlt2, joinF_part (by omega) e1 e2]
      refine ⟨i + 1, by omega, Nat.lt_of_lt_of_le hlt (F.next i hil), hG.trans p1, fun b' hb' => ?_, fun k hk hgk hl => ?_, fun k hk hgk hki hl => ?_, .inr ⟨i, hil, .inl rfl, rfl, .inl p2⟩⟩
      · rw [hG] at hb'
        exact (hs'.live id b' j1 hb' hm).mono hsubJ rfl
      · rcases hl with rfl | hl
        · left; omega
        · left; have := hgen_lt k hk p2 hgk hl; omega
      · left
        rcases Nat.lt_trichotomy k i with hh | hh | hh
        · have := (F.checked (Array.getElem?_eq_getElem hk) R.at_).2.2.2 hgk p2 hh
          exact absurd (R.pre k this) hl
        · exact absurd hh hki
        · omega
    · by_cases hnw : (Hs i).next ≤ id ∧ id < (Hs (i + 1)).next
      · obtain ⟨n1, n2⟩ := hnw
        obtain ⟨p1, p2⟩ := hnew id n1 n2
        have hρ := hnewer id (by omega) (by omega)
        have hm : ρ' id = some j := by
          cases e : ρ' id with
          | none => rw [join_left e, hρ] at hj; cases hj
          | some j' => rw [join_right e] at hj; exact hj
        have hG : (joinH (restr ρ (Hs i).next) G h h').get id = h'.get id := by rw [joinH_get hlt2, joinF_new (by omega) (by omega)]
        refine ⟨i + 1, by omega, n2, hG.trans p1, fun b' hb' => ?_, fun k hk hgk hl => ?_, fun k hk hgk hki hl => ?_, .inr ⟨i, hil, .inl rfl, rfl, .inr n1⟩⟩
        · rw [hG] at hb'
          exact (hs'.live id b' j hb' hm).mono hsubJ rfl
        · rcases hl with rfl | hl
          · left; omega
          · rcases Nat.lt_or_ge i k with hh | hh
            · right; exact p2 k hk hh hgk hl
            · left; omega
        · rcases Nat.lt_trichotomy k i with hh | hh | hh
          · right; exact Nat.le_trans (F.next_le (show k + 1 ≤ i by omega) (by omega)) n1
          · exact absurd hh hki
          · left; omega
      · -- as it was
        have hρ' : ∀ j', ρ' id = some j' → restr ρ (Hs i).next id = some j' := fun j' e => by
          cases e1 : restr ρ (Hs i).next id with
          | some j1 => have := hst.mono id j1 e1; rw [e] at this; exact this.symm
          | none =>
            exfalso
            have h1 := (hst.fresh id j' e e1).1
            have h2 := hs'.dom id j' e
            exact hnw ⟨by omega, by omega⟩
        have hρ : ρ id = some j := by
          cases e : ρ' id with
          | none => rw [join_left e] at hj; exact hj
          | some j' => rw [join_right e] at hj; cases hj; exact (restr_some (hρ' j e)).2
        have hc : restr ρ (Hs i).next id = none ∨ h.get id = none := by
          cases e1 : restr ρ (Hs i).next id with
          | none => exact .inl rfl
          | some j1 =>
            cases e2 : h.get id with
            | none => exact .inr rfl
            | some b => exact absurd ⟨j1, b, e1, e2⟩ hpt
        have hG : (joinH (restr ρ (Hs i).next) G h h').get id = G.get id := by
          rw [joinH_get hlt2]
          by_cases hlt : id < h.next
          · exact joinF_rest hlt hc
          · exact joinF_far (by omega) (by rcases Nat.lt_or_ge id h'.next with hh | hh; (exact absurd ⟨by omega, by omega⟩ hnw); exact hh)
        obtain ⟨q, q1, q2, q3, q4, q5, q6, q7⟩ := I.blk id j hρ
        refine ⟨q, q1, q2, hG.trans q3, fun b hb => ?_, fun k hk hgk hl => ?_, fun k hk hgk _ hl => q6 k hk hgk hl, ?_⟩
        · rw [hG] at hb
          exact (q4 b hb).mono (restr_le t1.mono (Nat.le_refl _)) (t3 id j b hρ hb hc)
        · rcases hl with rfl | hl
          · by_cases hlt : id < (Hs k).next
            · right
              have hr := restr_mk hlt hρ
              have hnone : h.get id = none := by rcases hc with e | e; (rw [hr] at e; cases e); exact e
              have hd := hrest hgk id j hρ hlt hnone
              rw [hd]
              exact hdead hgk id j hr hd
            · left
              rcases I.dom id j hρ with h0 | ⟨k', k1, k2, k3, k4⟩
              · have := I.dom0 id j h0
                have := F.next_le (Nat.zero_le k) (by omega)
                omega
              · have hne : k' ≠ k := fun e => R.not (e ▸ k2)
                have hgt : k < k' := by
                  rcases Nat.lt_or_gt_of_ne hne with hh | hh
                  · have := F.next_le (show k' + 1 ≤ k by omega) (by omega); omega
                  · exact hh
                rcases Nat.lt_or_ge k' q with hh | hh
                · omega
                · have := F.next_le hh (by omega); omega
          · exact q5 k hk hgk hl
        · rcases q7 with hh | ⟨k, k1, k2, k3, k4⟩
          · exact .inl hh
          · exact .inr ⟨k, k1, .inr k2, k3, k4⟩

theorem Sim.empty {ρ : Ren} {w : World} {m : Nat} (hd : ∀ id j, ρ id = some j → id < m) (hg : ∀ g, g < P.globals.size → ∃ j, ρ g = some j ∧ j.at_ = ⟨g, 0, none⟩) : Sim P ρ ⟨m, .nil⟩ w :=
  ⟨hd, fun id b j h => by simp [Heap.get, Tr.get_nil] at h, fun id1 id2 b1 b2 i1 i2 h => by simp [Heap.get, Tr.get_nil] at h, hg⟩

theorem Inv.globR (F : Facts P n ops As Hs vs cls) (I : Inv P n ops As Hs cls d0 ρ0 w0 listed a w ρ G) {i : Nat} (hi : i ≤ ops.size) : ∀ g, g < P.globals.size → ∃ j, restr ρ (Hs i).next g = some j ∧ j.at_ = ⟨g, 0, none⟩ := fun g hg => by
  obtain ⟨j, hj, e⟩ := I.glob0 g hg
  exact ⟨j, restr_mk (Nat.lt_of_lt_of_le (I.dom0 g j hj) (F.next_le (Nat.zero_le _) hi)) (I.st.mono g j hj), e⟩

/-- What is known of a block when an operation that acts on memory is ready is what the text's order says. -/
theorem Inv.now (F : Facts P n ops As Hs vs cls) (I : Inv P n ops As Hs cls d0 ρ0 w0 listed a w ρ G) {i : Nat} {o : Oper} (R : Rdy ops listed i o) (hg : isGen (cls i) = true) {id : Nat} {j : Info} (hid : id < (Hs i).next) (hj : ρ id = some j) :
    G.get id = (Hs i).get id ∧ ∀ b, G.get id = some b → BlkRel P (restr ρ (Hs i).next) j w b := by
  have hil : i < ops.size := (Array.getElem?_eq_some_iff.1 R.at_).1
  obtain ⟨q, q1, q2, q3, q4, q5, q6, q7⟩ := I.blk id j hj
  have hqi : q ≤ i := by
    rcases q7 with rfl | ⟨k, k1, k2, rfl, k4⟩
    · omega
    · have hne : k ≠ i := fun e => R.not (e ▸ k2)
      rcases Nat.lt_or_gt_of_ne hne with hh | hh
      · omega
      · exfalso
        rcases k4 with k4 | k4
        · have := (F.checked R.at_ (Array.getElem?_eq_getElem k1)).2.2.2 hg k4 hh
          exact R.post k this k2
        · have := F.next_le (show i ≤ k by omega) (by omega); omega
  have chain : ∀ r, q ≤ r → r ≤ i → (Hs r).get id = (Hs q).get id := by
    intro r
    induction r with
    | zero => intro h1 _; obtain rfl : q = 0 := by omega
              rfl
    | succ r ih =>
      intro h1 h2
      by_cases e : q = r + 1
      · subst e; rfl
      · have hr : r < ops.size := by omega
        rw [← ih (by omega) (by omega)]
        cases hgr : isGen (cls r) with
        | false => exact F.quiet (Array.getElem?_eq_getElem hr) hgr (Nat.lt_of_lt_of_le q2 (F.next_le (by omega) (by omega)))
        | true =>
          have := (F.checked (Array.getElem?_eq_getElem hr) R.at_).2.2.2 hgr hg (by omega)
          rcases q5 r hr hgr (R.pre r this) with hh | hh
          · omega
          · exact hh
  refine ⟨by rw [q3, chain i hqi (Nat.le_refl _)], fun b hb => (q4 b hb).mono (restr_le (.refl ρ) (F.next_le hqi (by omega))) rfl⟩

theorem Inv.run (F : Facts P n ops As Hs vs cls) (I : Inv P n ops As Hs cls d0 ρ0 w0 listed a w ρ G) {i : Nat} {o : Oper} (R : Rdy ops listed i o) {K : Act → World → Prop} {Q : Exit → Act → World → Prop}
    (hK : ∀ a' w' ρ' G', Inv P n ops As Hs cls d0 ρ0 w0 (listed.setIfInBounds i true) a' w' ρ' G' → K a' w') (z : Rd) : wpOpIn (fen z) 0 P ops Q i K a w := by
  have hil : i < ops.size := (Array.getElem?_eq_some_iff.1 R.at_).1
  have hwant : ∀ b, wantedA n ops (As i) o = some b → Region.wanted o (yielded ops a.tmps) = b := fun b hb => by
    unfold wantedA at hb
    split at hb
    · rename_i hgd; cases hb; simp [Region.wanted, hgd]
    · rename_i j want hgd
      split at hb
      · rename_i t hsl
        split at hb
        · rename_i htn
          split at hb
          · rename_i b0 eb
            cases hb
            have hv := I.slot F R htn (by unfold looks; rw [hgd]; simp [hsl])
            rw [eb] at hv
            have hlt : t < a.tmps.size := by rw [I.tsize]; exact htn
            have hcb : a.tmps[t]? = some (.bool b0) := by
              rw [Array.getD_eq_getD_getElem?, Array.getElem?_eq_getElem hlt] at hv
              rw [Array.getElem?_eq_getElem hlt]
              simp only [Option.getD_some] at hv
              rw [hv.plain_eq rfl]
            have hy : yielded ops a.tmps j = some b0 := by
              unfold yielded
              unfold guardSlot at hsl
              rw [hsl]
              simp [hcb]
            simp [Region.wanted, hgd, hy]
          · rename_i vs0 eb
            cases hb
            have hv := I.slot F R htn (by unfold looks; rw [hgd]; simp [hsl])
            rw [eb] at hv
            obtain ⟨vs1, e1, _⟩ := hv.tuple_inv
            have hlt : t < a.tmps.size := by rw [I.tsize]; exact htn
            have hcb : a.tmps[t]? = some (.tuple vs1) := by
              rw [Array.getD_eq_getD_getElem?, Array.getElem?_eq_getElem hlt] at e1
              rw [Array.getElem?_eq_getElem hlt]
              simpa using e1
            have hy : yielded ops a.tmps j = none := by
              unfold yielded
              unfold guardSlot at hsl
              rw [hsl]
              simp [hcb]
            simp [Region.wanted, hgd, hy]
          · cases hb
        · cases hb
      · cases hb
  unfold wpOpIn
  simp only [R.at_]
  rcases F.step i o R.at_ with ⟨hw, hv, hH, hc⟩ | ⟨hw, hstep⟩
  · rw [if_neg (by rw [hwant false hw]; simp)]
    exact ⟨fun _ _ => trivial, hK _ _ _ _ (I.still F R (by rw [hc]; rfl) (by rw [hv]; exact .closed (by simp [undef, closedV])))⟩
  · rw [if_pos (hwant true hw)]
    have hops := I.operands F R
    have hglob := I.globR F (Nat.le_of_lt hil)
    have hemp : Sim P (restr ρ (Hs i).next) ⟨(Hs i).next, .nil⟩ w := Sim.empty (fun id j h => (restr_some h).1) hglob
    have hnone : ∀ id, Heap.get ⟨(Hs i).next, .nil⟩ id = none := fun id => by simp [Heap.get, Tr.get_nil]
    cases hc : cls i with
    | pure =>
      rw [hc] at hstep
      obtain ⟨hH, hdo⟩ := hstep
      refine hdo ⟨(Hs i).next, .nil⟩ (restr ρ (Hs i).next) w a hemp hops K Q (fun v' ρ' w' hv hst hs' => ?_) z
      obtain ⟨ρ2, G2, hI⟩ := I.frame F R (h := ⟨(Hs i).next, .nil⟩) (h' := ⟨(Hs i).next, .nil⟩) rfl (by rw [hH]) hemp (fun id j b _ h => by rw [hnone] at h; cases h) (fun id j b _ h => by rw [hnone] at h; cases h)
        (fun id h1 h2 => by rw [hH] at h2; omega) (fun hg => by rw [hc] at hg; cases hg) hv hst hs' (fun hg => by rw [hc] at hg; cases hg)
      exact hK _ _ _ _ hI
    | alloc b =>
      rw [hc] at hstep
      obtain ⟨hH, hdo, hun⟩ := hstep
      refine hdo ⟨(Hs i).next, .nil⟩ rfl (restr ρ (Hs i).next) w a hemp hops K Q (fun v' ρ' w' hv hst hs' => ?_) z
      obtain ⟨ρ2, G2, hI⟩ := I.frame F R (h := ⟨(Hs i).next, .nil⟩) (h' := Heap.push ⟨(Hs i).next, .nil⟩ b) rfl (by rw [hH]; rfl) hemp (fun id j b _ h => by rw [hnone] at h; cases h) (fun id j b _ h => by rw [hnone] at h; cases h)
        (fun id h1 h2 => by
          rw [hH] at h2
          simp only [Heap.next_push] at h2
          obtain rfl : id = (Hs i).next := by omega
          refine ⟨by rw [hH, Heap.get_push, Heap.get_push, if_pos rfl, if_pos rfl], fun k hk hik hgk hl => ?_⟩
          refine hun k hk hik hgk ?_
          cases ho : ordered (masks ops.toList []) i k with
          | false => rfl
          | true => exact absurd hl (R.post k ho))
        (fun hg => by rw [hc] at hg; cases hg) hv hst hs' (fun hg => by rw [hc] at hg; cases hg)
      exact hK _ _ _ _ hI
    | gen =>
      rw [hc] at hstep
      have hgi : isGen (cls i) = true := by rw [hc]; rfl
      have hsim : Sim P (restr ρ (Hs i).next) (Hs i) w := by
        refine ⟨fun id j h => (restr_some h).1, fun id b j hb hj => ?_, fun id1 id2 b1 b2 i1 i2 h1 h2 h3 h4 h5 h6 => ?_, hglob⟩
        · obtain ⟨e1, e2⟩ := restr_some hj
          obtain ⟨n1, n2⟩ := I.now F R hgi e1 e2
          exact n2 b (by rw [n1]; exact hb)
        · obtain ⟨e1, e2⟩ := restr_some h3
          obtain ⟨e3, e4⟩ := restr_some h4
          exact I.sim.sep id1 id2 b1 b2 i1 i2 (by rw [(I.now F R hgi e1 e2).1]; exact h1) (by rw [(I.now F R hgi e3 e4).1]; exact h2) e2 e4 h5 h6
      refine hstep (restr ρ (Hs i).next) w a hsim hops K Q (fun v' ρ' w' hv hst hs' => ?_) z
      obtain ⟨ρ2, G2, hI⟩ := I.frame F R (h := Hs i) (h' := Hs (i + 1)) rfl rfl hsim
        (fun id j b hj hb => by obtain ⟨e1, e2⟩ := restr_some hj; rw [(I.now F R hgi e1 e2).1]; exact hb)
        (fun id j b _ _ => ⟨rfl, hgi⟩)
        (fun id h1 h2 => ⟨rfl, fun k hk hik hgk hl => by
          have := (F.checked R.at_ (Array.getElem?_eq_getElem hk)).2.2.2 hgi hgk hik
          exact absurd hl (R.post k this)⟩)
        (fun _ id j _ _ h => h) hv hst hs' (fun _ id j hj hd => hst.dead id j hj hd)
      exact hK _ _ _ _ hI
    | load =>
      rw [hc] at hstep
      obtain ⟨hH, t, x, ad, hop, ex, hl, hun⟩ := hstep
      have hgi : isGen (cls i) = false := by rw [hc]; rfl
      have hx := hops x (by rw [hop]; simp [Op.operands])
      rw [ex] at hx
      obtain ⟨inf, g1, g2, g3⟩ := hx.ptr_inv
      obtain ⟨id, off, sp⟩ := ad
      simp only at g1 g2 g3
      subst g2
      obtain ⟨hid, hj⟩ := restr_some g1
      obtain ⟨q, q1, q2, q3, q4, q5, q6, q7⟩ := I.blk id inf hj
      have hcong : ∀ r r' : Nat, (Hs r).get id = (Hs r').get id → aload P t ⟨id, off, none⟩ (Hs r) = aload P t ⟨id, off, none⟩ (Hs r') := fun r r' e => by
        unfold aload; rw [e]
      have hunord : ∀ k, k < ops.size → isGen (cls k) = true → (i ≤ k → L listed k) → (k < i → ¬ L listed k) → ordered (masks ops.toList []) i k = false ∧ ordered (masks ops.toList []) k i = false := fun k hk hgk h1 h2 => by
        refine ⟨?_, ?_⟩
        · cases ho : ordered (masks ops.toList []) i k with
          | false => rfl
          | true =>
            exfalso
            by_cases hik : i ≤ k
            · exact R.post k ho (h1 hik)
            · have := mask_lt F ho
              omega
        · cases ho : ordered (masks ops.toList []) k i with
          | false => rfl
          | true =>
            exfalso
            have hle := mask_lt F ho
            have hp := R.pre k ho
            rcases Nat.lt_or_ge k i with hh | hh
            · exact h2 hh hp
            · obtain rfl : k = i := by omega
              exact R.not hp
      -- the value that is loaded is the same, wherever its block stands now
      have hload : aload P t ⟨id, off, none⟩ (Hs q) = some (vs i) ∧ (q ≤ i ∨ belowV (Hs i).next 6 (vs i) = true) := by
        rcases Nat.le_total q i with hqi | hqi
        · refine ⟨?_, .inl hqi⟩
          have : ∀ m r, r + m = i → q ≤ r → aload P t ⟨id, off, none⟩ (Hs r) = some (vs i) := by
            intro m
            induction m with
            | zero => intro r hr _; obtain rfl : r = i := by omega
                      exact hl
            | succ m ih =>
              intro r hr hq
              have hrl : r < ops.size := by omega
              have hnx := ih (r + 1) (by omega) (by omega)
              cases hgr : isGen (cls r) with
              | false =>
                rw [← hcong (r + 1) r (F.quiet (Array.getElem?_eq_getElem hrl) hgr (Nat.lt_of_lt_of_le q2 (F.next_le hq (by omega))))]
                exact hnx
              | true =>
                by_cases hlr : L listed r
                · rcases q5 r hrl hgr hlr with hh | hh
                  · omega
                  · rw [← hcong (r + 1) r hh]; exact hnx
                · obtain ⟨u1, u2⟩ := hunord r hrl hgr (by omega) (fun _ => hlr)
                  exact (hun r hrl hgr u1 u2).1
          exact this (i - q) q (by omega) (Nat.le_refl _)
        · by_cases hqe : q = i
          · subst hqe; exact ⟨hl, .inl (Nat.le_refl _)⟩
          have hgenL : ∀ r, r < ops.size → i ≤ r → r < q → isGen (cls r) = true → L listed r := fun r hr hir hrq hgr => by
            by_cases hlr : L listed r
            · exact hlr
            · exfalso
              rcases q6 r hr hgr hlr with hh | hh
              · omega
              · have := F.next_le (show i ≤ r + 1 by omega) (by omega); omega
          have key : ∀ m, i + m ≤ q → aload P t ⟨id, off, none⟩ (Hs (i + m)) = some (vs i) := by
            intro m
            induction m with
            | zero => intro _; exact hl
            | succ m ih =>
              intro hm
              have hrl : i + m < ops.size := by omega
              have hpv := ih (by omega)
              cases hgr : isGen (cls (i + m)) with
              | false =>
                have := hcong (i + m + 1) (i + m) (F.quiet (Array.getElem?_eq_getElem hrl) hgr (Nat.lt_of_lt_of_le hid (F.next_le (by omega) (by omega))))
                rw [show i + (m + 1) = i + m + 1 by omega, this]; exact hpv
              | true =>
                obtain ⟨u1, u2⟩ := hunord (i + m) hrl hgr (fun _ => hgenL (i + m) hrl (by omega) (by omega) hgr) (by omega)
                exact (hun (i + m) hrl hgr u1 u2).2.1
          refine ⟨by have := key (q - i) (by omega); rwa [show i + (q - i) = q by omega] at this, .inr ?_⟩
          -- an operation that acts on memory has run ahead
          rcases q7 with rfl | ⟨k, k1, k2, rfl, k4⟩
          · omega
          · have hne : k ≠ i := fun e => R.not (e ▸ k2)
            rcases k4 with k4 | k4
            · obtain ⟨u1, u2⟩ := hunord k k1 k4 (fun _ => k2) (by omega)
              exact (hun k k1 k4 u1 u2).2.2
            · exfalso
              have := F.next_le (show i ≤ k by omega) (by omega); omega
      obtain ⟨hla, hbel⟩ := hload
      obtain ⟨c, e, ro, hgq⟩ := aload_cells hla
      have hgG : G.get id = some (.cells c e ro) := by rw [q3]; exact hgq
      obtain ⟨v', r1, r2⟩ := run_aload (H := Hs q) (restr_mk q2 hj) hgq (q4 _ hgG) hla
      have hv' : V (restr ρ (Hs (i + 1)).next) (vs i) v' := by
        rw [hH]
        rcases hbel with hh | hh
        · exact r2.mono (restr_le (.refl ρ) (F.next_le hh (by omega)))
        · exact belowV_V 6 (r2.mono (restr_sub ρ _)) hh
      have hrun : (execOp a.eval o).run P w = .ok (.value v') w := by
        unfold execOp
        simp only [hop, Instr.loadAt, g3, Instr.sureAddr, Sem.run_bind, Sem.run_pure, Result.andThen_ok, r1]
      refine ⟨fun _ _ => trivial, ?_⟩
      rw [semAt_of hrun (by simp) _]
      exact hK _ _ _ _ (I.still F R hgi hv')
  where
  mask_lt (F : Facts P n ops As Hs vs cls) {i j : Nat} (h : ordered (masks ops.toList []) i j = true) : i ≤ j :=
    ordered_spec (L := fun k => k ≤ j) (fun k hk o ho e he hb => by have := (F.checked ho ho).1 e he hb; omega) h (Nat.le_refl _)

theorem ready_of (F : Facts P n ops As Hs vs cls) {i : Nat} (hcl : Closed ops (L listed)) (hsz : listed.size = ops.size) (hr : i ∈ Region.ready .any ops listed) : ∃ o, Rdy ops listed i o := by
  obtain ⟨h0, o, ho, hall⟩ := mem_ready.1 hr
  have hil : i < ops.size := (Array.getElem?_eq_some_iff.1 ho).1
  have hnot : ¬ L listed i := fun h => by
    unfold L at h
    rw [Array.getD_eq_getD_getElem?, Array.getElem?_eq_getElem (by rw [hsz]; exact hil)] at h h0
    simp only [Option.getD_some] at h h0
    rw [h] at h0; cases h0
  -- the set with the new one is closed too
  have hcl' : Closed ops (fun k => k = i ∨ L listed k) := fun k hk ok hok e he hb => by
    rcases hk with rfl | hk
    · rw [ho] at hok; cases hok
      exact .inr (hall e he hb)
    · exact .inr (hcl k hk ok hok e he hb)
  refine ⟨o, ho, hnot, fun k hk => ?_, fun k hk hl => hnot (ordered_spec hcl hk hl), fun e he hb => hall e he hb⟩
  have hk2 : k = i ∨ L listed k := ordered_spec hcl' hk (.inl rfl)
  rcases hk2 with rfl | h
  · have := ordered_lt (fun i o ho => (F.checked ho ho).1) hk
    omega
  · exact h

/-- If nothing is ready, all is done. -/
theorem all_done (F : Facts P n ops As Hs vs cls) (hsz : listed.size = ops.size) (hr : Region.ready .any ops listed = []) : ∀ i, i < ops.size → L listed i := by
  intro i
  induction i using Nat.strongRecOn with
  | _ i ih =>
    intro hi
    by_cases hl : L listed i
    · exact hl
    · exfalso
      have : i ∈ Region.ready .any ops listed := by
        refine mem_ready.2 ⟨?_, ops[i], Array.getElem?_eq_getElem hi, fun e he hb => ?_⟩
        · unfold L at hl
          rw [Array.getD_eq_getD_getElem?, Array.getElem?_eq_getElem (by rw [hsz]; exact hi)] at hl ⊢
          simpa using hl
        · have := (F.checked (Array.getElem?_eq_getElem hi) (Array.getElem?_eq_getElem hi)).1 e he hb
          exact ih e.on this (by omega)
      rw [hr] at this; cases this

noncomputable def left (listed : Array Bool) : Nat := (List.range listed.size).countP fun i => !(listed.getD i false)

theorem left_set {i : Nat} (hi : i < listed.size) (hn : ¬ L listed i) : left (listed.setIfInBounds i true) + 1 = left listed := by
  unfold left
  rw [Array.size_setIfInBounds]
  unfold L at hn
  have hn' : listed.getD i false = false := by simpa using hn
  have key : ∀ (l : List Nat), l.Nodup → i ∈ l → (l.countP fun k => !((listed.setIfInBounds i true).getD k false)) + 1 = l.countP fun k => !(listed.getD k false) := by
    intro l
    induction l with
    | nil => intro _ h; cases h
    | cons x l ih =>
      intro hnd hm
      rw [List.nodup_cons] at hnd
      have hsame : ∀ k, k ≠ i → (listed.setIfInBounds i true).getD k false = listed.getD k false := fun k hk => by
        rw [Array.getD_eq_getD_getElem?, Array.getElem?_setIfInBounds_ne (by omega), ← Array.getD_eq_getD_getElem?]
      by_cases hx : x = i
      · subst hx
        have h1 : (listed.setIfInBounds x true).getD x false = true := by simp [Array.getD_eq_getD_getElem?, hi]
        have h2 : (l.countP fun k => !((listed.setIfInBounds x true).getD k false)) = l.countP fun k => !(listed.getD k false) := by
          apply List.countP_congr
          intro k hk
          rw [hsame k (fun e => hnd.1 (e ▸ hk))]
        rw [List.countP_cons, List.countP_cons, h1, h2, hn']
        simp
      · rw [List.countP_cons, List.countP_cons, hsame x hx]
        have := ih hnd.2 (by cases hm with | head => exact absurd rfl hx | tail _ h => exact h)
        omega
  exact key _ List.nodup_range (List.mem_range.2 hi)

theorem left_zero (h : left listed = 0) (hsz : listed.size = ops.size) : Region.ready .any ops listed = [] := by
  cases hr : Region.ready .any ops listed with
  | nil => rfl
  | cons i l =>
    exfalso
    have hm : i ∈ Region.ready .any ops listed := by rw [hr]; simp
    obtain ⟨h0, o, ho, _⟩ := mem_ready.1 hm
    have hil : i < listed.size := by rw [hsz]; exact (Array.getElem?_eq_some_iff.1 ho).1
    unfold left at h
    rw [List.countP_eq_zero] at h
    have := h i (List.mem_range.2 hil)
    rw [Array.getD_eq_getD_getElem?, Array.getElem?_eq_getElem hil] at this h0
    simp only [Option.getD_some] at this h0
    simp [h0] at this

theorem Inv.any (F : Facts P n ops As Hs vs cls) (z : Rd) {Q : Exit → Act → World → Prop}
    (hQ : ∀ listed a w ρ G, Inv P n ops As Hs cls d0 ρ0 w0 listed a w ρ G → (∀ i, i < ops.size → L listed i) → Q .normal a w) :
    ∀ (fuel : Nat) (listed : Array Bool) (a : Act) (w : World) (ρ : Ren) (G : Heap), left listed = fuel → Inv P n ops As Hs cls d0 ρ0 w0 listed a w ρ G → wpAnyIn (fen z) 0 P .any ops Q fuel listed a w := by
  intro fuel
  induction fuel with
  | zero =>
    intro listed a w ρ G hl I
    have hr := left_zero hl I.size
    exact ⟨hr, hQ listed a w ρ G I (all_done F I.size hr)⟩
  | succ fuel ih =>
    intro listed a w ρ G hl I
    refine ⟨fun hr => hQ listed a w ρ G I (all_done F I.size hr), fun i hi => ?_⟩
    obtain ⟨o, R⟩ := ready_of F I.closed I.size hi
    have hil : i < listed.size := by rw [I.size]; exact (Array.getElem?_eq_some_iff.1 R.at_).1
    exact I.run F R (fun a' w' ρ' G' I' => ih _ a' w' ρ' G' (by have := left_set hil R.not; omega) I') z

/-- At the end all is as the text's order says. -/
theorem Inv.done (F : Facts P n ops As Hs vs cls) (I : Inv P n ops As Hs cls d0 ρ0 w0 listed a w ρ G) (hall : ∀ i, i < ops.size → L listed i) :
    St ρ0 (Hs 0) w0 ρ (Hs ops.size) w ∧ Sim P ρ (Hs ops.size) w ∧ EnvRel ρ n (As ops.size) a ∧ a.defers = d0 := by
  have hget : ∀ id j, ρ id = some j → G.get id = (Hs ops.size).get id ∧ id < (Hs ops.size).next := fun id j hj => by
    obtain ⟨q, q1, q2, q3, q4, q5, q6, q7⟩ := I.blk id j hj
    have chain : ∀ m, q + m ≤ ops.size → (Hs (q + m)).get id = (Hs q).get id := by
      intro m
      induction m with
      | zero => intro _; rfl
      | succ m ih =>
        intro hm
        have hr : q + m < ops.size := by omega
        rw [← ih (by omega), show q + (m + 1) = q + m + 1 by omega]
        cases hgr : isGen (cls (q + m)) with
        | false => exact F.quiet (Array.getElem?_eq_getElem hr) hgr (Nat.lt_of_lt_of_le q2 (F.next_le (by omega) (by omega)))
        | true =>
          rcases q5 (q + m) hr hgr (hall _ hr) with hh | hh
          · omega
          · exact hh
    have := chain (ops.size - q) (by omega)
    rw [show q + (ops.size - q) = ops.size by omega] at this
    exact ⟨by rw [q3, this], Nat.lt_of_lt_of_le q2 (F.next_le q1 (Nat.le_refl _))⟩
  refine ⟨St0.full ⟨I.st.mono, F.next_le (Nat.zero_le _) (Nat.le_refl _), fun id i h h' => ?_, fun id i b b' h h1 h2 h3 => ?_, I.st.fresh, I.st.os, I.st.tape, I.st.output, I.st.size, I.st.frame⟩ (fun id i h h' => ?_),
    ⟨fun id j h => (hget id j h).2, fun id b j hb hj => I.sim.live id b j (by rw [(hget id j hj).1]; exact hb) hj, fun id1 id2 b1 b2 i1 i2 h1 h2 h3 h4 => I.sim.sep id1 id2 b1 b2 i1 i2 (by rw [(hget id1 i1 h3).1]; exact h1) (by rw [(hget id2 i2 h4).1]; exact h2) h3 h4, I.sim.glob⟩,
    ⟨I.tsize, fun t ht => ?_⟩, I.defers⟩
  · rw [← (hget id i (I.st.mono id i h)).1]; exact I.st.dead id i h h'
  · rw [← (hget id i (I.st.mono id i h)).1] at h3; exact I.st.ro id i b b' h h1 h2 h3
  · rcases I.dom id i h with h0 | ⟨k, k1, k2, k3, k4⟩
    · rw [h'] at h0; cases h0
    · exact Nat.le_trans (F.next_le (Nat.zero_le _) (by omega)) k3
  · obtain ⟨r, r1, r2, r3, r4, r5⟩ := I.tmps t ht
    have : As ops.size t = As r t := env_same F r1 (Nat.le_refl _) (fun k o hk1 hk2 hk hd => by have := r3 k o hk hd (hall k hk2); omega)
    rw [this]
    exact r2.mono (restr_sub ρ _)

end

theorem awp_draw {id : Nat} {Q : Ex → Env → Heap → Prop} (hm : P.follows .mixedOrders = true) (F : Facts P n ops As Hs vs cls) (hQ : Q .normal (As ops.size) (Hs ops.size)) : AWp P n (.region id ops true) Q (As 0) (Hs 0) := by
  intro z ρ w a hs he
  refine wpIn_region_any hm ?_
  obtain ⟨d1, d2⟩ := hs.drew
  have hL0 : ∀ i, ¬ L (Array.replicate ops.size false) i := fun i h => by
    unfold L at h
    rw [Array.getD_eq_getD_getElem?, Array.getElem?_replicate] at h
    split at h <;> simp at h
  have I0 : Inv P n ops As Hs cls a.defers ρ w.drew (Array.replicate ops.size false) a w.drew ρ (Hs 0) := by
    refine ⟨by simp, fun i hi => absurd hi (hL0 i), (St.refl ρ (Hs 0) w.drew).to0, d2, fun id j h => .inl h, hs.dom, hs.glob, fun id j hj => ⟨0, Nat.zero_le _, hs.dom id j hj, rfl, fun b hb => ?_, fun k _ _ hl => absurd hl (hL0 k), fun k _ _ _ => .inl (Nat.zero_le _), .inl rfl⟩, rfl, he.size, fun t ht => ⟨0, Nat.zero_le _, ?_, fun k o _ _ hl => absurd hl (hL0 k), fun k o _ _ _ => Nat.zero_le _, .inl rfl⟩⟩
    · exact (d2.live id b j hb hj).mono (fun x y h => restr_mk (hs.dom x y h) h) rfl
    · exact (he.tmps t ht).mono (fun x y h => restr_mk (hs.dom x y h) h)
  have hleft : left (Array.replicate ops.size false) = ops.size := by
    unfold left
    have : ∀ i ∈ List.range (Array.replicate ops.size false).size, (!(Array.replicate ops.size false).getD i false) = true := fun i _ => by
      have := hL0 i
      unfold L at this
      simpa using this
    rw [List.countP_eq_length.2 this]
    simp
  refine Inv.any F z (fun listed a' w' ρ' G' I hall => ?_) ops.size _ a w.drew ρ (Hs 0) hleft I0
  obtain ⟨t1, t2, t3, t4⟩ := I.done F hall
  exact ⟨.normal, ρ', _, _, hQ, d1.trans t1, t2, ⟨t3, he.fr.step (d1.trans t1) t4⟩, trivial⟩

end
end Go.Ab
