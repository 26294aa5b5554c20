/- The abstract heap: ids, blocks, renamings, what values and worlds are alike, and what a step leaves as it was. Over any program. -/
import Derived.WalkKit
import Derived.Laws.AppendOwn
set_option linter.unusedVariables false
namespace Go.Ab

/-- From here on a capacity is not known: the rest says how many cells an element has. -/
def UNK : Nat := 18446744073709551616

structure Info where
  at_ : Addr
  n : Nat
  s : Nat

abbrev Ren := Nat → Option Info

/-- Values that hold no address. -/
def plain : Value → Bool
  | .bool _ | .int _ _ | .float _ _ | .complex _ _ _ | .string _ | .pointer none | .slice none _ _ | .map none | .chan none | .nilFunc | .nilIface => true
  | _ => false

def noYield : Fn → Bool
  | .yield _ => false
  | _ => true

inductive V (ρ : Ren) : Value → Value → Prop
  | same (v : Value) : plain v = true → V ρ v v
  | ptr (id off : Nat) (i : Info) : ρ id = some i → V ρ (.pointer (some ⟨id, off, none⟩)) (.pointer (some (i.at_.add off)))
  | slice (id off len cap cap' : Nat) (i : Info) (a' : Addr) : ρ id = some i → (a' = i.at_.add off ∨ (len = 0 ∧ cap' = 0)) → len ≤ cap' → cap' < UNK →
      (UNK ≤ cap → i.s = cap - UNK ∧ off + cap' * i.s ≤ i.n) → (cap < UNK → cap' = cap) → V ρ (.slice (some ⟨id, off, none⟩) len cap) (.slice (some a') len cap')
  | map (id : Nat) (i : Info) : ρ id = some i → V ρ (.map (some id)) (.map (some i.at_.block))
  | func (fn : Fn) (xs ys xs' ys' : Array Value) : noYield fn = true → xs.size = xs'.size → ys.size = ys'.size →
      (∀ (j : Nat) x x', xs[j]? = some x → xs'[j]? = some x' → V ρ x x') → (∀ (j : Nat) x x', ys[j]? = some x → ys'[j]? = some x' → V ρ x x') → V ρ (.func fn xs ys) (.func fn xs' ys')
  | yield (l : Nat) (i : Info) : ρ l = some i → V ρ (.func (.yield l) #[] #[]) (.func (.yield i.at_.block) #[] #[])
  | iface (t : TypeId) (v v' : Value) : V ρ v v' → V ρ (.iface t v) (.iface t v')
  | agg (xs xs' : Array Value) : xs.size = xs'.size → (∀ (j : Nat) x x', xs[j]? = some x → xs'[j]? = some x' → V ρ x x') → V ρ (.agg xs) (.agg xs')
  | tuple (xs xs' : Array Value) : xs.size = xs'.size → (∀ (j : Nat) x x', xs[j]? = some x → xs'[j]? = some x' → V ρ x x') → V ρ (.tuple xs) (.tuple xs')

def Sub (ρ ρ' : Ren) : Prop := ∀ id i, ρ id = some i → ρ' id = some i
theorem Sub.refl (ρ : Ren) : Sub ρ ρ := fun _ _ h => h
theorem Sub.trans {a b c : Ren} (h : Sub a b) (h' : Sub b c) : Sub a c := fun id i e => h' id i (h id i e)

theorem V.mono {ρ ρ' : Ren} (hs : Sub ρ ρ') {v v' : Value} (h : V ρ v v') : V ρ' v v' := by
  induction h with
  | same v hp => exact .same v hp
  | ptr id off i h => exact .ptr id off i (hs _ _ h)
  | slice id off len cap cap' i a' h h1 h2 h0 h3 h4 => exact .slice id off len cap cap' i a' (hs _ _ h) h1 h2 h0 h3 h4
  | map id i h => exact .map id i (hs _ _ h)
  | func fn xs ys xs' ys' hn h1 h2 _ _ ih1 ih2 => exact .func fn xs ys xs' ys' hn h1 h2 ih1 ih2
  | yield l i h => exact .yield l i (hs _ _ h)
  | iface t v v' _ ih => exact .iface t v v' ih
  | agg xs xs' h1 _ ih => exact .agg xs xs' h1 ih
  | tuple xs xs' h1 _ ih => exact .tuple xs xs' h1 ih

/-- Lists of values, one by one. -/
def VL (ρ : Ren) (xs xs' : List Value) : Prop := xs.length = xs'.length ∧ ∀ (j : Nat) x x', xs[j]? = some x → xs'[j]? = some x' → V ρ x x'
theorem VL.mono {ρ ρ' : Ren} (hs : Sub ρ ρ') {v v' : List Value} (h : VL ρ v v') : VL ρ' v v' := ⟨h.1, fun j x x' a b => (h.2 j x x' a b).mono hs⟩
theorem VL.nil (ρ : Ren) : VL ρ [] [] := ⟨rfl, fun _ _ _ h => by simp at h⟩
theorem VL.cons {ρ : Ren} {x x' : Value} {xs xs' : List Value} (h : V ρ x x') (hs : VL ρ xs xs') : VL ρ (x :: xs) (x' :: xs') :=
  ⟨by simp [hs.1], fun j y y' a b => by
    cases j with
    | zero => simp at a b; subst a; subst b; exact h
    | succ j => simp at a b; exact hs.2 j y y' a b⟩
theorem VL.uncons {ρ : Ren} {x : Value} {xs l : List Value} (h : VL ρ (x :: xs) l) : ∃ x' xs', l = x' :: xs' ∧ V ρ x x' ∧ VL ρ xs xs' := by
  cases l with
  | nil => have := h.1; simp at this
  | cons x' xs' =>
    exact ⟨x', xs', rfl, h.2 0 x x' rfl rfl, by have := h.1; simp at this; exact this, fun j y y' a b => h.2 (j + 1) y y' (by simpa using a) (by simpa using b)⟩
theorem VL.unnil {ρ : Ren} {l : List Value} (h : VL ρ [] l) : l = [] := by
  have := h.1; simp at this; exact List.length_eq_zero_iff.1 this.symm
theorem VL.append {ρ : Ren} {a a' b b' : List Value} (h : VL ρ a a') (h' : VL ρ b b') : VL ρ (a ++ b) (a' ++ b') := by
  refine ⟨by simp [h.1, h'.1], fun j x x' e e' => ?_⟩
  by_cases hj : j < a.length
  · rw [List.getElem?_append_left hj] at e
    rw [List.getElem?_append_left (by rw [← h.1]; exact hj)] at e'
    exact h.2 j x x' e e'
  · rw [List.getElem?_append_right (by omega)] at e
    rw [List.getElem?_append_right (by rw [← h.1]; omega), ← h.1] at e'
    exact h'.2 _ x x' e e'
theorem VL.drop {ρ : Ren} {a a' : List Value} (h : VL ρ a a') (k : Nat) : VL ρ (a.drop k) (a'.drop k) :=
  ⟨by simp [h.1], fun j x x' e e' => h.2 (k + j) x x' (by rw [← List.getElem?_drop]; exact e) (by rw [← List.getElem?_drop]; exact e')⟩
theorem VL.take {ρ : Ren} {a a' : List Value} (h : VL ρ a a') (k : Nat) : VL ρ (a.take k) (a'.take k) := by
  refine ⟨by simp [h.1], fun j x x' e e' => ?_⟩
  rw [List.getElem?_take] at e e'
  split at e
  · rename_i hj; rw [if_pos hj] at e'; exact h.2 j x x' e e'
  · cases e
theorem VL.get {ρ : Ren} {a a' : List Value} (h : VL ρ a a') {j : Nat} {x : Value} (e : a[j]? = some x) : ∃ x', a'[j]? = some x' ∧ V ρ x x' := by
  have hj : j < a.length := (List.getElem?_eq_some_iff.1 e).1
  have hj' : j < a'.length := by rw [← h.1]; exact hj
  exact ⟨a'[j], List.getElem?_eq_getElem hj', h.2 j x _ e (List.getElem?_eq_getElem hj')⟩
theorem VL.set {ρ : Ren} {a a' : List Value} (h : VL ρ a a') {k : Nat} {x x' : Value} (hx : V ρ x x') : VL ρ (a.set k x) (a'.set k x') := by
  refine ⟨by simp [h.1], fun j y y' e e' => ?_⟩
  rw [List.getElem?_set] at e e'
  by_cases hk : k = j
  · simp only [hk, if_true] at e e'
    split at e
    · split at e'
      · cases e; cases e'; exact hx
      · cases e'
    · cases e
  · simp only [hk, if_false] at e e'
    exact h.2 j y y' e e'

inductive Tr (α : Type) where
  | nil
  | node (l : Tr α) (x : Option α) (r : Tr α)

noncomputable def Tr.get {α : Type} (t : Tr α) : Nat → Option α :=
  Tr.rec (motive := fun _ => Nat → Option α) (fun _ => none)
    (fun _ x _ ihl ihr n => Bool.rec (motive := fun _ => Option α) (Bool.rec (motive := fun _ => Option α) (ihr (Nat.pred (Nat.div n 2))) (ihl (Nat.div n 2)) (Nat.beq (Nat.mod n 2) 1)) x (Nat.beq n 0)) t

/-- A tree with one entry. -/
noncomputable def Tr.one {α : Type} (v : Option α) (f : Nat) : Nat → Tr α :=
  Nat.rec (motive := fun _ => Nat → Tr α) (fun _ => .nil)
    (fun _ ih n => Bool.rec (motive := fun _ => Tr α) (Bool.rec (motive := fun _ => Tr α) (.node .nil none (ih (Nat.pred (Nat.div n 2)))) (.node (ih (Nat.div n 2)) none .nil) (Nat.beq (Nat.mod n 2) 1)) (.node .nil v .nil) (Nat.beq n 0)) f

noncomputable def Tr.set {α : Type} (t : Tr α) (n : Nat) (v : Option α) : Tr α :=
  Tr.rec (motive := fun _ => Nat → Tr α) (fun n => Tr.one v (Nat.succ n) n)
    (fun l x r ihl ihr n => Bool.rec (motive := fun _ => Tr α) (Bool.rec (motive := fun _ => Tr α) (.node l x (ihr (Nat.pred (Nat.div n 2)))) (.node (ihl (Nat.div n 2)) x r) (Nat.beq (Nat.mod n 2) 1)) (.node l v r) (Nat.beq n 0)) t n

theorem Tr.get_nil {α : Type} (n : Nat) : (Tr.nil : Tr α).get n = none := rfl
theorem Tr.get_node {α : Type} (l : Tr α) (x : Option α) (r : Tr α) (n : Nat) : (Tr.node l x r).get n = bif Nat.beq n 0 then x else bif Nat.beq (n % 2) 1 then l.get (n / 2) else r.get (n / 2 - 1) := by
  show Bool.rec (motive := fun _ => Option α) (Bool.rec (motive := fun _ => Option α) (r.get (Nat.pred (Nat.div n 2))) (l.get (Nat.div n 2)) (Nat.beq (Nat.mod n 2) 1)) x (Nat.beq n 0) = _
  cases h : Nat.beq n 0 with
  | true => rfl
  | false =>
    show Bool.rec (motive := fun _ => Option α) (r.get (Nat.pred (Nat.div n 2))) (l.get (Nat.div n 2)) (Nat.beq (Nat.mod n 2) 1) = bif Nat.beq (n % 2) 1 then l.get (n / 2) else r.get (n / 2 - 1)
    show _ = bif Nat.beq (Nat.mod n 2) 1 then l.get (n / 2) else r.get (n / 2 - 1)
    cases Nat.beq (Nat.mod n 2) 1 <;> rfl
theorem Tr.set_nil {α : Type} (n : Nat) (v : Option α) : (Tr.nil : Tr α).set n v = Tr.one v (n + 1) n := rfl
theorem Tr.set_node {α : Type} (l : Tr α) (x : Option α) (r : Tr α) (n : Nat) (v : Option α) : (Tr.node l x r).set n v = bif Nat.beq n 0 then .node l v r else bif Nat.beq (n % 2) 1 then .node (l.set (n / 2) v) x r else .node l x (r.set (n / 2 - 1) v) := by
  show Bool.rec (motive := fun _ => Tr α) (Bool.rec (motive := fun _ => Tr α) (.node l x (r.set (Nat.pred (Nat.div n 2)) v)) (.node (l.set (Nat.div n 2) v) x r) (Nat.beq (Nat.mod n 2) 1)) (.node l v r) (Nat.beq n 0) = _
  cases h : Nat.beq n 0 with
  | true => rfl
  | false =>
    show Bool.rec (motive := fun _ => Tr α) (.node l x (r.set (Nat.pred (Nat.div n 2)) v)) (.node (l.set (Nat.div n 2) v) x r) (Nat.beq (Nat.mod n 2) 1) = bif Nat.beq (Nat.mod n 2) 1 then Tr.node (l.set (n / 2) v) x r else Tr.node l x (r.set (n / 2 - 1) v)
    cases Nat.beq (Nat.mod n 2) 1 <;> rfl
theorem Tr.one_succ {α : Type} (v : Option α) (f n : Nat) : Tr.one v (f + 1) n = bif Nat.beq n 0 then .node .nil v .nil else bif Nat.beq (n % 2) 1 then .node (Tr.one v f (n / 2)) none .nil else .node .nil none (Tr.one v f (n / 2 - 1)) := by
  show Bool.rec (motive := fun _ => Tr α) (Bool.rec (motive := fun _ => Tr α) (.node .nil none (Tr.one v f (Nat.pred (Nat.div n 2)))) (.node (Tr.one v f (Nat.div n 2)) none .nil) (Nat.beq (Nat.mod n 2) 1)) (.node .nil v .nil) (Nat.beq n 0) = _
  cases h : Nat.beq n 0 with
  | true => rfl
  | false =>
    show Bool.rec (motive := fun _ => Tr α) (.node .nil none (Tr.one v f (Nat.pred (Nat.div n 2)))) (.node (Tr.one v f (Nat.div n 2)) none .nil) (Nat.beq (Nat.mod n 2) 1) = bif Nat.beq (Nat.mod n 2) 1 then Tr.node (Tr.one v f (n / 2)) none .nil else Tr.node .nil none (Tr.one v f (n / 2 - 1))
    cases Nat.beq (Nat.mod n 2) 1 <;> rfl

theorem nbeq (a b : Nat) : Nat.beq a b = decide (a = b) := by
  by_cases h : a = b
  · subst h; simp
  · simp only [h, decide_false]
    cases hb : Nat.beq a b with
    | false => rfl
    | true => exact absurd (Nat.eq_of_beq_eq_true hb) h

theorem Tr.get_one {α : Type} (v : Option α) : ∀ (f n m : Nat), n < f → (Tr.one v f n).get m = if m = n then v else none := by
  intro f
  induction f with
  | zero => intro n m h; omega
  | succ f ih =>
    intro n m h
    simp only [Tr.one_succ, nbeq, cond_eq_ite, decide_eq_true_eq]
    by_cases hn : n = 0
    · subst hn
      simp only [if_true, Tr.get_node, Tr.get_nil, nbeq, cond_eq_ite, decide_eq_true_eq, ite_self]
    · simp only [hn, if_false]
      by_cases hod : n % 2 = 1
      · simp only [hod, if_true, Tr.get_node, Tr.get_nil, nbeq, cond_eq_ite, decide_eq_true_eq, ih (n / 2) (m / 2) (by omega)]
        by_cases hm0 : m = 0
        · subst hm0; simp [show ¬ 0 = n by omega]
        · simp only [hm0, if_false]
          by_cases hmo : m % 2 = 1
          · simp only [hmo, if_true]
            by_cases e : m = n
            · subst e; simp
            · rw [if_neg (by omega), if_neg e]
          · simp only [hmo, if_false]
            rw [if_neg (by omega)]
      · simp only [hod, if_false, Tr.get_node, Tr.get_nil, nbeq, cond_eq_ite, decide_eq_true_eq, ih (n / 2 - 1) (m / 2 - 1) (by omega)]
        by_cases hm0 : m = 0
        · subst hm0; simp [show ¬ 0 = n by omega]
        · simp only [hm0, if_false]
          by_cases hmo : m % 2 = 1
          · simp only [hmo, if_true]
            rw [if_neg (by omega)]
          · simp only [hmo, if_false]
            by_cases e : m = n
            · subst e; simp
            · rw [if_neg (by omega), if_neg e]

theorem Tr.get_set {α : Type} (t : Tr α) (n m : Nat) (v : Option α) : (t.set n v).get m = if m = n then v else t.get m := by
  induction t generalizing n m with
  | nil => rw [Tr.set_nil, Tr.get_one v (n + 1) n m (by omega), Tr.get_nil]
  | node l x r ihl ihr =>
    simp only [Tr.set_node, nbeq, cond_eq_ite, decide_eq_true_eq]
    by_cases hn : n = 0
    · subst hn
      simp only [if_true, Tr.get_node, nbeq, cond_eq_ite, decide_eq_true_eq]
      by_cases hm0 : m = 0 <;> simp [hm0]
    · simp only [hn, if_false]
      by_cases hod : n % 2 = 1
      · simp only [hod, if_true, Tr.get_node, nbeq, cond_eq_ite, decide_eq_true_eq, ihl (n / 2) (m / 2)]
        by_cases hm0 : m = 0
        · subst hm0; simp [show ¬ 0 = n by omega]
        · simp only [hm0, if_false]
          by_cases hmo : m % 2 = 1
          · simp only [hmo, if_true]
            by_cases e : m = n
            · subst e; simp
            · rw [if_neg (by omega), if_neg e]
          · simp only [hmo, if_false]
            rw [if_neg (by omega)]
      · simp only [hod, if_false, Tr.get_node, nbeq, cond_eq_ite, decide_eq_true_eq, ihr (n / 2 - 1) (m / 2 - 1)]
        by_cases hm0 : m = 0
        · subst hm0; simp [show ¬ 0 = n by omega]
        · simp only [hm0, if_false]
          by_cases hmo : m % 2 = 1
          · simp only [hmo, if_true]
            rw [if_neg (by omega)]
          · simp only [hmo, if_false]
            by_cases e : m = n
            · subst e; simp
            · rw [if_neg (by omega), if_neg e]

/-- A block: cells (with the element's type; 'ro': may not be written), a map, a string's iterator, the record of a loop over a function (the temporaries where it began, its parameters, its code, the jump that ended it). -/
inductive Blk where
  | cells (c : List Value) (e : TypeId) (ro : Bool)
  | map (es : List (Value × Value))
  | iter (s : ByteArray) (pos : Nat)
  | loop (A : Nat → Value) (n : Nat) (ps : Array Tmp) (as bd : Code) (st : Option Code)

def Blk.ro : Blk → Bool
  | .cells _ _ r => r
  | _ => false

structure Heap where
  next : Nat
  tr : Tr Blk

noncomputable def Heap.get (H : Heap) (id : Nat) : Option Blk := H.tr.get id
noncomputable def Heap.set (H : Heap) (id : Nat) (b : Blk) : Heap := ⟨H.next, H.tr.set id (some b)⟩
noncomputable def Heap.kill (H : Heap) (id : Nat) : Heap := ⟨H.next, H.tr.set id none⟩
noncomputable def Heap.push (H : Heap) (b : Blk) : Heap := ⟨H.next + 1, H.tr.set H.next (some b)⟩
@[simp] theorem Heap.next_set (H : Heap) (id : Nat) (b : Blk) : (H.set id b).next = H.next := rfl
@[simp] theorem Heap.next_kill (H : Heap) (id : Nat) : (H.kill id).next = H.next := rfl
@[simp] theorem Heap.next_push (H : Heap) (b : Blk) : (H.push b).next = H.next + 1 := rfl
theorem Heap.get_set (H : Heap) (id m : Nat) (b : Blk) : (H.set id b).get m = if m = id then some b else H.get m := Tr.get_set _ _ _ _
theorem Heap.get_kill (H : Heap) (id m : Nat) : (H.kill id).get m = if m = id then none else H.get m := Tr.get_set _ _ _ _
theorem Heap.get_push (H : Heap) (m : Nat) (b : Blk) : (H.push b).get m = if m = H.next then some b else H.get m := Tr.get_set _ _ _ _

/-- What lies behind the known cells of a row of bytes is bytes. -/
def spareOk (P : Program) (e : TypeId) (v : Value) : Prop := P.underlying e = some (.int .u8) → ∃ n : Int, v = .int .u8 n ∧ 0 ≤ n ∧ n < 256

def BlkRel (P : Program) (ρ : Ren) (i : Info) (w : World) : Blk → Prop
  | .cells c _ true => i.at_.block < w.heap.size ∧ ∀ (j : Nat) v, c[j]? = some v → ∃ v', w.cell? (i.at_.add j) = some v' ∧ V ρ v v'
  | .cells c e false => ∃ (cur : Array Value) (fz : Nat × Nat), w.heap[i.at_.block]? = some (.cells cur e fz) ∧ (i.at_.spot = none ∧ i.at_.off = 0) ∧ i.at_.off + i.n = cur.size ∧ c.length ≤ i.n ∧
      (∀ (j : Nat) v, c[j]? = some v → ∃ v', cur[i.at_.off + j]? = some v' ∧ V ρ v v') ∧
      (∀ o, i.at_.off ≤ o → o < cur.size → ¬ (fz.1 ≤ o ∧ o < fz.2)) ∧
      (∀ (o : Nat) v, i.at_.off + c.length ≤ o → cur[o]? = some v → spareOk P e v) ∧ i.s = P.cellsOf e
  | .map es => ∃ (es' : Array MapEntry) (clock : Nat), w.heap[i.at_.block]? = some (.map es' clock) ∧ VL ρ (es.map (·.1)) (es'.toList.map (·.key)) ∧ VL ρ (es.map (·.2)) (es'.toList.map (·.val))
  | .iter s pos => w.heap[i.at_.block]? = some (.stringIter s pos) ∧ i.at_.off = 0
  | .loop A n ps as bd st => ∃ (fn : FuncId) (tmps : Array Value) (D : Nat), w.heap[i.at_.block]? = some (.loop { state := if st.isNone then .ready else .done, pending := st, fn := fn, tmps := tmps, params := ps, assign := as, body := bd, defers := D }) ∧
      tmps.size = n ∧ ∀ t, t < n → V ρ (A t) (tmps.getD t undef)

structure Sim (P : Program) (ρ : Ren) (H : Heap) (w : World) : Prop where
  dom : ∀ id i, ρ id = some i → id < H.next
  live : ∀ id b i, H.get id = some b → ρ id = some i → BlkRel P ρ i w b
  sep : ∀ id1 id2 b1 b2 i1 i2, H.get id1 = some b1 → H.get id2 = some b2 → ρ id1 = some i1 → ρ id2 = some i2 → b1.ro = false → id1 ≠ id2 → i1.at_.block ≠ i2.at_.block
  glob : ∀ g, g < P.globals.size → ∃ i, ρ g = some i ∧ i.at_ = ⟨g, 0, none⟩

theorem BlkRel.lt {P : Program} {ρ : Ren} {i : Info} {w : World} {b : Blk} (h : BlkRel P ρ i w b) : i.at_.block < w.heap.size := by
  cases b with
  | cells c e ro =>
    cases ro with
    | true => exact h.1
    | false =>
      obtain ⟨cur, fz, hh, _⟩ := h
      exact (Array.getElem?_eq_some_iff.1 hh).1
  | map es => obtain ⟨es', clock, hh, _⟩ := h; exact (Array.getElem?_eq_some_iff.1 hh).1
  | iter s pos => exact (Array.getElem?_eq_some_iff.1 h.1).1
  | loop A n ps as bd st => obtain ⟨fn, tmps, D, hh, _⟩ := h; exact (Array.getElem?_eq_some_iff.1 hh).1

theorem block_add (a : Addr) (n : Nat) : (a.add n).block = a.block := by unfold Addr.add; split <;> rfl
theorem add_add (a : Addr) (i j : Nat) : (a.add i).add j = a.add (i + j) := by
  unfold Addr.add
  by_cases hi : i = 0 <;> by_cases hj : j = 0 <;> simp [hi, hj, Nat.add_assoc]
theorem add_lit (b o n : Nat) : (⟨b, o, none⟩ : Addr).add n = ⟨b, o + n, none⟩ := by
  unfold Addr.add; split <;> simp_all
theorem add_none {a : Addr} (h : a.spot = none) (n : Nat) : a.add n = ⟨a.block, a.off + n, none⟩ := by
  obtain ⟨b, o, s⟩ := a; simp at h; subst h; exact add_lit b o n

theorem BlkRel.mono {P : Program} {ρ ρ' : Ren} {i : Info} {w w' : World} {b : Blk} (hs : Sub ρ ρ') (hw : w'.heap[i.at_.block]? = w.heap[i.at_.block]?) (h : BlkRel P ρ i w b) : BlkRel P ρ' i w' b := by
  cases b with
  | cells c e ro =>
    cases ro with
    | true =>
      refine ⟨?_, fun j v hj => ?_⟩
      · have := h.1
        rcases Nat.lt_or_ge i.at_.block w'.heap.size with h1 | h1
        · exact h1
        · rw [Array.getElem?_eq_none h1, Array.getElem?_eq_getElem this] at hw; cases hw
      · obtain ⟨v', hc, hv⟩ := h.2 j v hj
        refine ⟨v', ?_, hv.mono hs⟩
        rw [← hc]
        exact World.cell?_of_block (by rw [block_add]; exact hw)
    | false =>
      obtain ⟨cur, fz, hh, h1, h2, h3, h4, h5, h6, h7⟩ := h
      exact ⟨cur, fz, hw.trans hh, h1, h2, h3, fun j v hj => by obtain ⟨v', a, b⟩ := h4 j v hj; exact ⟨v', a, b.mono hs⟩, h5, h6, h7⟩
  | map es => obtain ⟨es', clock, hh, h1, h2⟩ := h; exact ⟨es', clock, hw.trans hh, h1.mono hs, h2.mono hs⟩
  | iter s pos => exact ⟨hw.trans h.1, h.2⟩
  | loop A n ps as bd st => obtain ⟨fn, tmps, D, hh, h1, h2⟩ := h; exact ⟨fn, tmps, D, hw.trans hh, h1, fun t ht => (h2 t ht).mono hs⟩

structure St (ρ : Ren) (H : Heap) (w : World) (ρ' : Ren) (H' : Heap) (w' : World) : Prop where
  mono : Sub ρ ρ'
  next : H.next ≤ H'.next
  dead : ∀ id i, ρ id = some i → H.get id = none → H'.get id = none
  ro : ∀ id i b b', ρ id = some i → H.get id = some b → b.ro = true → H'.get id = some b' → b'.ro = true
  fresh : ∀ id i, ρ' id = some i → ρ id = none → H.next ≤ id ∧ (w.heap.size ≤ i.at_.block ∨ ∃ id0 i0 b0, ρ id0 = some i0 ∧ i0.at_.block = i.at_.block ∧ H.get id0 = some b0 ∧ b0.ro = false)
  os : w'.os = w.os
  tape : w'.tape = w.tape
  output : w'.output = w.output
  size : w.heap.size ≤ w'.heap.size
  frame : ∀ b, b < w.heap.size → (∀ id i bl, ρ id = some i → H.get id = some bl → bl.ro = false → i.at_.block ≠ b) → w'.heap[b]? = w.heap[b]?

theorem St.refl (ρ : Ren) (H : Heap) (w : World) : St ρ H w ρ H w where
  mono := Sub.refl ρ
  next := Nat.le_refl _
  dead := fun _ _ _ h => h
  ro := fun _ _ b b' _ h hr h' => by rw [h] at h'; cases h'; exact hr
  fresh := fun id i h h' => by rw [h'] at h; cases h
  os := rfl
  tape := rfl
  output := rfl
  size := Nat.le_refl _
  frame := fun _ _ _ => rfl

theorem St.owned {ρ : Ren} {H : Heap} {w : World} {ρ' : Ren} {H' : Heap} {w' : World} (h : St ρ H w ρ' H' w') {id : Nat} {i : Info} {bl : Blk}
    (h1 : ρ' id = some i) (h2 : H'.get id = some bl) (h3 : bl.ro = false) :
    w.heap.size ≤ i.at_.block ∨ ∃ id0 i0 b0, ρ id0 = some i0 ∧ i0.at_.block = i.at_.block ∧ H.get id0 = some b0 ∧ b0.ro = false := by
  cases hr : ρ id with
  | none => exact (h.fresh id i h1 hr).2
  | some i0 =>
    have : i0 = i := by have := h.mono id i0 hr; rw [h1] at this; cases this; rfl
    subst this
    cases hg : H.get id with
    | none => rw [h.dead id i0 hr hg] at h2; cases h2
    | some b0 =>
      refine .inr ⟨id, i0, b0, hr, rfl, hg, ?_⟩
      cases hro : b0.ro with
      | false => rfl
      | true => rw [h.ro id i0 b0 bl hr hg hro h2] at h3; cases h3

theorem St.trans {ρ ρ1 ρ2 : Ren} {H H1 H2 : Heap} {w w1 w2 : World} (a : St ρ H w ρ1 H1 w1) (b : St ρ1 H1 w1 ρ2 H2 w2) : St ρ H w ρ2 H2 w2 where
  mono := a.mono.trans b.mono
  next := Nat.le_trans a.next b.next
  dead := fun id i h h' => b.dead id i (a.mono _ _ h) (a.dead id i h h')
  ro := fun id i bl bl' h h1 h2 h3 => by
    cases hg : H1.get id with
    | none => rw [b.dead id i (a.mono _ _ h) hg] at h3; cases h3
    | some b1 => exact b.ro id i b1 bl' (a.mono _ _ h) hg (a.ro id i bl b1 h h1 h2 hg) h3
  fresh := fun id i h h' => by
    cases hr : ρ1 id with
    | some i1 =>
      have : i1 = i := by have := b.mono id i1 hr; rw [h] at this; cases this; rfl
      subst this
      exact a.fresh id i1 hr h'
    | none =>
      obtain ⟨h1, h2⟩ := b.fresh id i h hr
      refine ⟨Nat.le_trans a.next h1, ?_⟩
      rcases h2 with h2 | ⟨id0, i0, b0, e1, e2, e3, e4⟩
      · exact .inl (Nat.le_trans a.size h2)
      · rw [← e2]; exact a.owned e1 e3 e4
  os := b.os.trans a.os
  tape := b.tape.trans a.tape
  output := b.output.trans a.output
  size := Nat.le_trans a.size b.size
  frame := fun bk hb hn => by
    rw [b.frame bk (Nat.lt_of_lt_of_le hb a.size) ?_, a.frame bk hb hn]
    intro id i bl h1 h2 h3 e
    rcases a.owned h1 h2 h3 with h | ⟨id0, i0, b0, e1, e2, e3, e4⟩
    · omega
    · exact hn id0 i0 b0 e1 e3 e4 (e2.trans e)

/-- A block that nothing known leads to. -/
structure Hid (ρ : Ren) (H : Heap) (w : World) (b : Nat) (o : Obj) : Prop where
  at_ : w.heap[b]? = some o
  un : ∀ id i bl, ρ id = some i → H.get id = some bl → i.at_.block ≠ b

theorem Hid.lt {ρ : Ren} {H : Heap} {w : World} {b : Nat} {o : Obj} (h : Hid ρ H w b o) : b < w.heap.size := (Array.getElem?_eq_some_iff.1 h.at_).1
theorem Hid.step {ρ ρ' : Ren} {H H' : Heap} {w w' : World} {b : Nat} {o : Obj} (h : Hid ρ H w b o) (hst : St ρ H w ρ' H' w') : Hid ρ' H' w' b o :=
  ⟨(hst.frame b h.lt (fun id i bl h1 h2 _ => h.un id i bl h1 h2)).trans h.at_, fun id i bl h1 h2 e => by
    cases hr : ρ id with
    | none =>
      rcases (hst.fresh id i h1 hr).2 with hh | ⟨id0, i0, b0, e1, e2, e3, e4⟩
      · have := h.lt; omega
      · exact h.un id0 i0 b0 e1 e3 (e2.trans e)
    | some i0 =>
      have : i0 = i := by have := hst.mono id i0 hr; rw [h1] at this; cases this; rfl
      subst this
      cases hg : H.get id with
      | none => rw [hst.dead id i0 hr hg] at h2; cases h2
      | some b0 => exact h.un id i0 b0 hr hg e⟩

/-- A heap that knows no more than another. -/
structure Less (H2 H1 : Heap) : Prop where
  next : H1.next ≤ H2.next
  get : ∀ id b, H2.get id = some b → H1.get id = some b

theorem Less.refl (H : Heap) : Less H H := ⟨Nat.le_refl _, fun _ _ h => h⟩
theorem Less.trans {a b c : Heap} (h : Less a b) (h' : Less b c) : Less a c := ⟨Nat.le_trans h'.next h.next, fun id x e => h'.get id x (h.get id x e)⟩
theorem Sim.less {P : Program} {ρ : Ren} {H1 H2 : Heap} {w : World} (h : Sim P ρ H1 w) (l : Less H2 H1) : Sim P ρ H2 w :=
  ⟨fun id i hi => Nat.lt_of_lt_of_le (h.dom id i hi) l.next, fun id b i hb hi => h.live id b i (l.get id b hb) hi, fun id1 id2 b1 b2 i1 i2 h1 h2 => h.sep id1 id2 b1 b2 i1 i2 (l.get _ _ h1) (l.get _ _ h2), h.glob⟩
theorem St.less {ρ ρ' : Ren} {H H1 H2 : Heap} {w w' : World} (h : St ρ H w ρ' H1 w') (l : Less H2 H1) : St ρ H w ρ' H2 w' :=
  { h with
    next := Nat.le_trans h.next l.next
    dead := fun id i hi hg => by
      cases hc : H2.get id with
      | none => rfl
      | some b => have := l.get id b hc; rw [h.dead id i hi hg] at this; cases this
    ro := fun id i b b' hi hg hr hb => h.ro id i b b' hi hg hr (l.get id b' hb) }

end Go.Ab
