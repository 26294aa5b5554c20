/- The abstract heap: ids, blocks, renamings, what values and worlds are alike, and what a step leaves as it was. Over any program. -/
import Derived.WalkKit
import Derived.Laws.AppendOwn
import Derived.OrdersIn
import Derived.TacticsIn
import Derived.RangeFuncRecord
import Derived.Laws.StructEq
import Derived.Laws.Cover3
import Derived.Laws.Pointers
set_option linter.unusedVariables false
namespace Go.Ab

/-- From here on a capacity is not known: the rest says how many cells an element has. -/
def UNK : Nat := 9223372036854775808

structure Info where
  at_ : Addr
  n : Nat
  s : Nat

abbrev Ren := Nat → Option Info

/-- Values that hold no address. -/
def plain : Value → Bool
  | .bool _ | .int _ _ | .float _ _ | .complex _ _ _ | .string _ | .pointer none | .slice none _ _ | .map none | .chan none | .nilFunc | .nilIface => true
  | _ => false

def noYield : Fn → Bool
  | .yield _ => false
  | _ => true

inductive V (ρ : Ren) : Value → Value → Prop
  | same (v : Value) : plain v = true → V ρ v v
  | ptr (id off : Nat) (i : Info) : ρ id = some i → V ρ (.pointer (some ⟨id, off, none⟩)) (.pointer (some (i.at_.add off)))
  | slice (id off len cap cap' : Nat) (i : Info) (a' : Addr) : ρ id = some i → (a' = i.at_.add off ∨ (len = 0 ∧ cap' = 0)) → len ≤ cap' → cap' < UNK →
      (UNK ≤ cap → i.s = cap - UNK ∧ off + cap' * i.s = i.n) → (cap < UNK → cap' = cap) → V ρ (.slice (some ⟨id, off, none⟩) len cap) (.slice (some a') len cap')
  | map (id : Nat) (i : Info) : ρ id = some i → V ρ (.map (some id)) (.map (some i.at_.block))
  | func (fn : Fn) (xs ys xs' ys' : Array Value) : noYield fn = true → xs.size = xs'.size → ys.size = ys'.size →
      (∀ (j : Nat) x x', xs[j]? = some x → xs'[j]? = some x' → V ρ x x') → (∀ (j : Nat) x x', ys[j]? = some x → ys'[j]? = some x' → V ρ x x') → V ρ (.func fn xs ys) (.func fn xs' ys')
  | yield (l : Nat) (i : Info) : ρ l = some i → V ρ (.func (.yield l) #[] #[]) (.func (.yield i.at_.block) #[] #[])
  | iface (t : TypeId) (v v' : Value) : V ρ v v' → V ρ (.iface t v) (.iface t v')
  | agg (xs xs' : Array Value) : xs.size = xs'.size → (∀ (j : Nat) x x', xs[j]? = some x → xs'[j]? = some x' → V ρ x x') → V ρ (.agg xs) (.agg xs')
  | tuple (xs xs' : Array Value) : xs.size = xs'.size → (∀ (j : Nat) x x', xs[j]? = some x → xs'[j]? = some x' → V ρ x x') → V ρ (.tuple xs) (.tuple xs')

def Sub (ρ ρ' : Ren) : Prop := ∀ id i, ρ id = some i → ρ' id = some i
theorem Sub.refl (ρ : Ren) : Sub ρ ρ := fun _ _ h => h
theorem Sub.trans {a b c : Ren} (h : Sub a b) (h' : Sub b c) : Sub a c := fun id i e => h' id i (h id i e)

theorem V.mono {ρ ρ' : Ren} (hs : Sub ρ ρ') {v v' : Value} (h : V ρ v v') : V ρ' v v' := by
  induction h with
  | same v hp => exact .same v hp
  | ptr id off i h => exact .ptr id off i (hs _ _ h)
  | slice id off len cap cap' i a' h h1 h2 h0 h3 h4 => exact .slice id off len cap cap' i a' (hs _ _ h) h1 h2 h0 h3 h4
  | map id i h => exact .map id i (hs _ _ h)
  | func fn xs ys xs' ys' hn h1 h2 _ _ ih1 ih2 => exact .func fn xs ys xs' ys' hn h1 h2 ih1 ih2
  | yield l i h => exact .yield l i (hs _ _ h)
  | iface t v v' _ ih => exact .iface t v v' ih
  | agg xs xs' h1 _ ih => exact .agg xs xs' h1 ih
  | tuple xs xs' h1 _ ih => exact .tuple xs xs' h1 ih

/-- Lists of values, one by one. -/
def VL (ρ : Ren) (xs xs' : List Value) : Prop := xs.length = xs'.length ∧ ∀ (j : Nat) x x', xs[j]? = some x → xs'[j]? = some x' → V ρ x x'
theorem VL.mono {ρ ρ' : Ren} (hs : Sub ρ ρ') {v v' : List Value} (h : VL ρ v v') : VL ρ' v v' := ⟨h.1, fun j x x' a b => (h.2 j x x' a b).mono hs⟩
theorem VL.nil (ρ : Ren) : VL ρ [] [] := ⟨rfl, fun _ _ _ h => by simp at h⟩
theorem VL.cons {ρ : Ren} {x x' : Value} {xs xs' : List Value} (h : V ρ x x') (hs : VL ρ xs xs') : VL ρ (x :: xs) (x' :: xs') :=
  ⟨by simp [hs.1], fun j y y' a b => by
    cases j with
    | zero => simp at a b; subst a; subst b; exact h
    | succ j => simp at a b; exact hs.2 j y y' a b⟩
theorem VL.uncons {ρ : Ren} {x : Value} {xs l : List Value} (h : VL ρ (x :: xs) l) : ∃ x' xs', l = x' :: xs' ∧ V ρ x x' ∧ VL ρ xs xs' := by
  cases l with
  | nil => have := h.1; simp at this
  | cons x' xs' =>
    exact ⟨x', xs', rfl, h.2 0 x x' rfl rfl, by have := h.1; simp at this; exact this, fun j y y' a b => h.2 (j + 1) y y' (by simpa using a) (by simpa using b)⟩
theorem VL.unnil {ρ : Ren} {l : List Value} (h : VL ρ [] l) : l = [] := by
  have := h.1; simp at this; exact List.length_eq_zero_iff.1 this.symm
theorem VL.append {ρ : Ren} {a a' b b' : List Value} (h : VL ρ a a') (h' : VL ρ b b') : VL ρ (a ++ b) (a' ++ b') := by
  refine ⟨by simp [h.1, h'.1], fun j x x' e e' => ?_⟩
  by_cases hj : j < a.length
  · rw [List.getElem?_append_left hj] at e
    rw [List.getElem?_append_left (by rw [← h.1]; exact hj)] at e'
    exact h.2 j x x' e e'
  · rw [List.getElem?_append_right (by omega)] at e
    rw [List.getElem?_append_right (by rw [← h.1]; omega), ← h.1] at e'
    exact h'.2 _ x x' e e'
theorem VL.drop {ρ : Ren} {a a' : List Value} (h : VL ρ a a') (k : Nat) : VL ρ (a.drop k) (a'.drop k) :=
  ⟨by simp [h.1], fun j x x' e e' => h.2 (k + j) x x' (by rw [← List.getElem?_drop]; exact e) (by rw [← List.getElem?_drop]; exact e')⟩
theorem VL.take {ρ : Ren} {a a' : List Value} (h : VL ρ a a') (k : Nat) : VL ρ (a.take k) (a'.take k) := by
  refine ⟨by simp [h.1], fun j x x' e e' => ?_⟩
  rw [List.getElem?_take] at e e'
  split at e
  · rename_i hj; rw [if_pos hj] at e'; exact h.2 j x x' e e'
  · cases e
theorem VL.get {ρ : Ren} {a a' : List Value} (h : VL ρ a a') {j : Nat} {x : Value} (e : a[j]? = some x) : ∃ x', a'[j]? = some x' ∧ V ρ x x' := by
  have hj : j < a.length := (List.getElem?_eq_some_iff.1 e).1
  have hj' : j < a'.length := by rw [← h.1]; exact hj
  exact ⟨a'[j], List.getElem?_eq_getElem hj', h.2 j x _ e (List.getElem?_eq_getElem hj')⟩
theorem VL.set {ρ : Ren} {a a' : List Value} (h : VL ρ a a') {k : Nat} {x x' : Value} (hx : V ρ x x') : VL ρ (a.set k x) (a'.set k x') := by
  refine ⟨by simp [h.1], fun j y y' e e' => ?_⟩
  rw [List.getElem?_set] at e e'
  by_cases hk : k = j
  · simp only [hk, if_true] at e e'
    split at e
    · split at e'
      · cases e; cases e'; exact hx
      · cases e'
    · cases e
  · simp only [hk, if_false] at e e'
    exact h.2 j y y' e e'

inductive Tr (α : Type) where
  | nil
  | node (l : Tr α) (x : Option α) (r : Tr α)

noncomputable def Tr.get {α : Type} (t : Tr α) : Nat → Option α :=
  Tr.rec (motive := fun _ => Nat → Option α) (fun _ => none)
    (fun _ x _ ihl ihr n => Bool.rec (motive := fun _ => Option α) (Bool.rec (motive := fun _ => Option α) (ihr (Nat.pred (Nat.div n 2))) (ihl (Nat.div n 2)) (Nat.beq (Nat.mod n 2) 1)) x (Nat.beq n 0)) t

/-- A tree with one entry. -/
noncomputable def Tr.one {α : Type} (v : Option α) (f : Nat) : Nat → Tr α :=
  Nat.rec (motive := fun _ => Nat → Tr α) (fun _ => .nil)
    (fun _ ih n => Bool.rec (motive := fun _ => Tr α) (Bool.rec (motive := fun _ => Tr α) (.node .nil none (ih (Nat.pred (Nat.div n 2)))) (.node (ih (Nat.div n 2)) none .nil) (Nat.beq (Nat.mod n 2) 1)) (.node .nil v .nil) (Nat.beq n 0)) f

noncomputable def Tr.set {α : Type} (t : Tr α) (n : Nat) (v : Option α) : Tr α :=
  Tr.rec (motive := fun _ => Nat → Tr α) (fun n => Tr.one v (Nat.succ n) n)
    (fun l x r ihl ihr n => Bool.rec (motive := fun _ => Tr α) (Bool.rec (motive := fun _ => Tr α) (.node l x (ihr (Nat.pred (Nat.div n 2)))) (.node (ihl (Nat.div n 2)) x r) (Nat.beq (Nat.mod n 2) 1)) (.node l v r) (Nat.beq n 0)) t n

theorem Tr.get_nil {α : Type} (n : Nat) : (Tr.nil : Tr α).get n = none := rfl
theorem Tr.get_node {α : Type} (l : Tr α) (x : Option α) (r : Tr α) (n : Nat) : (Tr.node l x r).get n = bif Nat.beq n 0 then x else bif Nat.beq (n % 2) 1 then l.get (n / 2) else r.get (n / 2 - 1) := by
  show Bool.rec (motive := fun _ => Option α) (Bool.rec (motive := fun _ => Option α) (r.get (Nat.pred (Nat.div n 2))) (l.get (Nat.div n 2)) (Nat.beq (Nat.mod n 2) 1)) x (Nat.beq n 0) = _
  cases h : Nat.beq n 0 with
  | true => rfl
  | false =>
    show Bool.rec (motive := fun _ => Option α) (r.get (Nat.pred (Nat.div n 2))) (l.get (Nat.div n 2)) (Nat.beq (Nat.mod n 2) 1) = bif Nat.beq (n % 2) 1 then l.get (n / 2) else r.get (n / 2 - 1)
    show _ = bif Nat.beq (Nat.mod n 2) 1 then l.get (n / 2) else r.get (n / 2 - 1)
    cases Nat.beq (Nat.mod n 2) 1 <;> rfl
theorem Tr.set_nil {α : Type} (n : Nat) (v : Option α) : (Tr.nil : Tr α).set n v = Tr.one v (n + 1) n := rfl
theorem Tr.set_node {α : Type} (l : Tr α) (x : Option α) (r : Tr α) (n : Nat) (v : Option α) : (Tr.node l x r).set n v = bif Nat.beq n 0 then .node l v r else bif Nat.beq (n % 2) 1 then .node (l.set (n / 2) v) x r else .node l x (r.set (n / 2 - 1) v) := by
  show Bool.rec (motive := fun _ => Tr α) (Bool.rec (motive := fun _ => Tr α) (.node l x (r.set (Nat.pred (Nat.div n 2)) v)) (.node (l.set (Nat.div n 2) v) x r) (Nat.beq (Nat.mod n 2) 1)) (.node l v r) (Nat.beq n 0) = _
  cases h : Nat.beq n 0 with
  | true => rfl
  | false =>
    show Bool.rec (motive := fun _ => Tr α) (.node l x (r.set (Nat.pred (Nat.div n 2)) v)) (.node (l.set (Nat.div n 2) v) x r) (Nat.beq (Nat.mod n 2) 1) = bif Nat.beq (Nat.mod n 2) 1 then Tr.node (l.set (n / 2) v) x r else Tr.node l x (r.set (n / 2 - 1) v)
    cases Nat.beq (Nat.mod n 2) 1 <;> rfl
theorem Tr.one_succ {α : Type} (v : Option α) (f n : Nat) : Tr.one v (f + 1) n = bif Nat.beq n 0 then .node .nil v .nil else bif Nat.beq (n % 2) 1 then .node (Tr.one v f (n / 2)) none .nil else .node .nil none (Tr.one v f (n / 2 - 1)) := by
  show Bool.rec (motive := fun _ => Tr α) (Bool.rec (motive := fun _ => Tr α) (.node .nil none (Tr.one v f (Nat.pred (Nat.div n 2)))) (.node (Tr.one v f (Nat.div n 2)) none .nil) (Nat.beq (Nat.mod n 2) 1)) (.node .nil v .nil) (Nat.beq n 0) = _
  cases h : Nat.beq n 0 with
  | true => rfl
  | false =>
    show Bool.rec (motive := fun _ => Tr α) (.node .nil none (Tr.one v f (Nat.pred (Nat.div n 2)))) (.node (Tr.one v f (Nat.div n 2)) none .nil) (Nat.beq (Nat.mod n 2) 1) = bif Nat.beq (Nat.mod n 2) 1 then Tr.node (Tr.one v f (n / 2)) none .nil else Tr.node .nil none (Tr.one v f (n / 2 - 1))
    cases Nat.beq (Nat.mod n 2) 1 <;> rfl

theorem nbeq (a b : Nat) : Nat.beq a b = decide (a = b) := by
  by_cases h : a = b
  · subst h; simp
  · simp only [h, decide_false]
    cases hb : Nat.beq a b with
    | false => rfl
    | true => exact absurd (Nat.eq_of_beq_eq_true hb) h

theorem Tr.get_one {α : Type} (v : Option α) : ∀ (f n m : Nat), n < f → (Tr.one v f n).get m = if m = n then v else none := by
  intro f
  induction f with
  | zero => intro n m h; omega
  | succ f ih =>
    intro n m h
    simp only [Tr.one_succ, nbeq, cond_eq_ite, decide_eq_true_eq]
    by_cases hn : n = 0
    · subst hn
      simp only [if_true, Tr.get_node, Tr.get_nil, nbeq, cond_eq_ite, decide_eq_true_eq, ite_self]
    · simp only [hn, if_false]
      by_cases hod : n % 2 = 1
      · simp only [hod, if_true, Tr.get_node, Tr.get_nil, nbeq, cond_eq_ite, decide_eq_true_eq, ih (n / 2) (m / 2) (by omega)]
        by_cases hm0 : m = 0
        · subst hm0; simp [show ¬ 0 = n by omega]
        · simp only [hm0, if_false]
          by_cases hmo : m % 2 = 1
          · simp only [hmo, if_true]
            by_cases e : m = n
            · subst e; simp
            · rw [if_neg (by omega), if_neg e]
          · simp only [hmo, if_false]
            rw [if_neg (by omega)]
      · simp only [hod, if_false, Tr.get_node, Tr.get_nil, nbeq, cond_eq_ite, decide_eq_true_eq, ih (n / 2 - 1) (m / 2 - 1) (by omega)]
        by_cases hm0 : m = 0
        · subst hm0; simp [show ¬ 0 = n by omega]
        · simp only [hm0, if_false]
          by_cases hmo : m % 2 = 1
          · simp only [hmo, if_true]
            rw [if_neg (by omega)]
          · simp only [hmo, if_false]
            by_cases e : m = n
            · subst e; simp
            · rw [if_neg (by omega), if_neg e]

theorem Tr.get_set {α : Type} (t : Tr α) (n m : Nat) (v : Option α) : (t.set n v).get m = if m = n then v else t.get m := by
  induction t generalizing n m with
  | nil => rw [Tr.set_nil, Tr.get_one v (n + 1) n m (by omega), Tr.get_nil]
  | node l x r ihl ihr =>
    simp only [Tr.set_node, nbeq, cond_eq_ite, decide_eq_true_eq]
    by_cases hn : n = 0
    · subst hn
      simp only [if_true, Tr.get_node, nbeq, cond_eq_ite, decide_eq_true_eq]
      by_cases hm0 : m = 0 <;> simp [hm0]
    · simp only [hn, if_false]
      by_cases hod : n % 2 = 1
      · simp only [hod, if_true, Tr.get_node, nbeq, cond_eq_ite, decide_eq_true_eq, ihl (n / 2) (m / 2)]
        by_cases hm0 : m = 0
        · subst hm0; simp [show ¬ 0 = n by omega]
        · simp only [hm0, if_false]
          by_cases hmo : m % 2 = 1
          · simp only [hmo, if_true]
            by_cases e : m = n
            · subst e; simp
            · rw [if_neg (by omega), if_neg e]
          · simp only [hmo, if_false]
            rw [if_neg (by omega)]
      · simp only [hod, if_false, Tr.get_node, nbeq, cond_eq_ite, decide_eq_true_eq, ihr (n / 2 - 1) (m / 2 - 1)]
        by_cases hm0 : m = 0
        · subst hm0; simp [show ¬ 0 = n by omega]
        · simp only [hm0, if_false]
          by_cases hmo : m % 2 = 1
          · simp only [hmo, if_true]
            rw [if_neg (by omega)]
          · simp only [hmo, if_false]
            by_cases e : m = n
            · subst e; simp
            · rw [if_neg (by omega), if_neg e]

/-- A block: cells (with the element's type; 'ro': may not be written), a map, a string's iterator, a map's iterator (the map, what it had, which entries were seen, how many it had at the last step), the record of a loop over a function (the temporaries where it began, its parameters, its code, the jump that ended it). -/
inductive Blk where
  | cells (c : List Value) (e : TypeId) (ro : Bool)
  | map (es : List (Value × Value))
  | iter (s : ByteArray) (pos : Nat)
  | miter (m : Option Nat) (since : Nat) (seen : List Nat) (stp : Nat)
  | loop (A : Nat → Value) (n : Nat) (ps : Array Tmp) (as bd : Code) (st : Option Code)

def Blk.ro : Blk → Bool
  | .cells _ _ r => r
  | _ => false

structure Heap where
  next : Nat
  tr : Tr Blk

noncomputable def Heap.get (H : Heap) (id : Nat) : Option Blk := H.tr.get id
noncomputable def Heap.set (H : Heap) (id : Nat) (b : Blk) : Heap := ⟨H.next, H.tr.set id (some b)⟩
noncomputable def Heap.kill (H : Heap) (id : Nat) : Heap := ⟨H.next, H.tr.set id none⟩
noncomputable def Heap.push (H : Heap) (b : Blk) : Heap := ⟨H.next + 1, H.tr.set H.next (some b)⟩
@[simp] theorem Heap.next_set (H : Heap) (id : Nat) (b : Blk) : (H.set id b).next = H.next := rfl
@[simp] theorem Heap.next_kill (H : Heap) (id : Nat) : (H.kill id).next = H.next := rfl
@[simp] theorem Heap.next_push (H : Heap) (b : Blk) : (H.push b).next = H.next + 1 := rfl
theorem Heap.get_set (H : Heap) (id m : Nat) (b : Blk) : (H.set id b).get m = if m = id then some b else H.get m := Tr.get_set _ _ _ _
theorem Heap.get_kill (H : Heap) (id m : Nat) : (H.kill id).get m = if m = id then none else H.get m := Tr.get_set _ _ _ _
theorem Heap.get_push (H : Heap) (m : Nat) (b : Blk) : (H.push b).get m = if m = H.next then some b else H.get m := Tr.get_set _ _ _ _

/-- What lies behind the known cells of a row of bytes is bytes. -/
def spareOk (P : Program) (e : TypeId) (v : Value) : Prop := P.underlying e = some (.int .u8) → ∃ n : Int, v = .int .u8 n ∧ 0 ≤ n ∧ n < 256

def BlkRel (P : Program) (ρ : Ren) (i : Info) (w : World) : Blk → Prop
  | .cells c _ true => i.at_.block < w.heap.size ∧ ∀ (j : Nat) v, c[j]? = some v → ∃ v', w.cell? (i.at_.add j) = some v' ∧ V ρ v v'
  | .cells c e false => ∃ (cur : Array Value) (fz : Nat × Nat), w.heap[i.at_.block]? = some (.cells cur e fz) ∧ (i.at_.spot = none ∧ i.at_.off = 0) ∧ i.at_.off + i.n = cur.size ∧ c.length ≤ i.n ∧
      (∀ (j : Nat) v, c[j]? = some v → ∃ v', cur[i.at_.off + j]? = some v' ∧ V ρ v v') ∧
      (∀ o, i.at_.off ≤ o → o < cur.size → ¬ (fz.1 ≤ o ∧ o < fz.2)) ∧
      (∀ (o : Nat) v, i.at_.off + c.length ≤ o → cur[o]? = some v → spareOk P e v) ∧ i.s = P.cellsOf e
  | .map es => ∃ (es' : Array MapEntry) (clock : Nat), w.heap[i.at_.block]? = some (.map es' clock) ∧ VL ρ (es.map (·.1)) (es'.toList.map (·.key)) ∧ VL ρ (es.map (·.2)) (es'.toList.map (·.val)) ∧
      clock = es'.size ∧ ∀ (j : Nat) e, es'[j]? = some e → e.born = j
  | .iter s pos => w.heap[i.at_.block]? = some (.stringIter s pos) ∧ i.at_.off = 0
  | .miter none _ _ _ => w.heap[i.at_.block]? = some (.mapIter none 0 #[] 0) ∧ i.at_.off = 0
  | .miter (some m) since seen stp => (∃ i', ρ m = some i' ∧ w.heap[i.at_.block]? = some (.mapIter (some i'.at_.block) since seen.toArray stp)) ∧ i.at_.off = 0
  | .loop A n ps as bd st => ∃ (fn : FuncId) (tmps : Array Value) (D : Nat), w.heap[i.at_.block]? = some (.loop { state := if st.isNone then .ready else .done, pending := st, fn := fn, tmps := tmps, params := ps, assign := as, body := bd, defers := D }) ∧
      tmps.size = n ∧ ∀ t, t < n → V ρ (A t) (tmps.getD t undef)

structure Sim (P : Program) (ρ : Ren) (H : Heap) (w : World) : Prop where
  dom : ∀ id i, ρ id = some i → id < H.next
  live : ∀ id b i, H.get id = some b → ρ id = some i → BlkRel P ρ i w b
  sep : ∀ id1 id2 b1 b2 i1 i2, H.get id1 = some b1 → H.get id2 = some b2 → ρ id1 = some i1 → ρ id2 = some i2 → b1.ro = false → id1 ≠ id2 → i1.at_.block ≠ i2.at_.block
  glob : ∀ g, g < P.globals.size → ∃ i, ρ g = some i ∧ i.at_ = ⟨g, 0, none⟩

theorem BlkRel.lt {P : Program} {ρ : Ren} {i : Info} {w : World} {b : Blk} (h : BlkRel P ρ i w b) : i.at_.block < w.heap.size := by
  cases b with
  | cells c e ro =>
    cases ro with
    | true => exact h.1
    | false =>
      obtain ⟨cur, fz, hh, _⟩ := h
      exact (Array.getElem?_eq_some_iff.1 hh).1
  | map es => obtain ⟨es', clock, hh, _⟩ := h; exact (Array.getElem?_eq_some_iff.1 hh).1
  | iter s pos => exact (Array.getElem?_eq_some_iff.1 h.1).1
  | miter m since seen stp =>
    cases m with
    | none => exact (Array.getElem?_eq_some_iff.1 h.1).1
    | some m => obtain ⟨⟨i', _, hh⟩, _⟩ := h; exact (Array.getElem?_eq_some_iff.1 hh).1
  | loop A n ps as bd st => obtain ⟨fn, tmps, D, hh, _⟩ := h; exact (Array.getElem?_eq_some_iff.1 hh).1

theorem block_add (a : Addr) (n : Nat) : (a.add n).block = a.block := by unfold Addr.add; split <;> rfl
theorem add_add (a : Addr) (i j : Nat) : (a.add i).add j = a.add (i + j) := by
  unfold Addr.add
  by_cases hi : i = 0 <;> by_cases hj : j = 0 <;> simp [hi, hj, Nat.add_assoc]
theorem add_lit (b o n : Nat) : (⟨b, o, none⟩ : Addr).add n = ⟨b, o + n, none⟩ := by
  unfold Addr.add; split <;> simp_all
theorem add_none {a : Addr} (h : a.spot = none) (n : Nat) : a.add n = ⟨a.block, a.off + n, none⟩ := by
  obtain ⟨b, o, s⟩ := a; simp at h; subst h; exact add_lit b o n

theorem BlkRel.mono {P : Program} {ρ ρ' : Ren} {i : Info} {w w' : World} {b : Blk} (hs : Sub ρ ρ') (hw : w'.heap[i.at_.block]? = w.heap[i.at_.block]?) (h : BlkRel P ρ i w b) : BlkRel P ρ' i w' b := by
  cases b with
  | cells c e ro =>
    cases ro with
    | true =>
      refine ⟨?_, fun j v hj => ?_⟩
      · have := h.1
        rcases Nat.lt_or_ge i.at_.block w'.heap.size with h1 | h1
        · exact h1
        · rw [Array.getElem?_eq_none h1, Array.getElem?_eq_getElem this] at hw; cases hw
      · obtain ⟨v', hc, hv⟩ := h.2 j v hj
        refine ⟨v', ?_, hv.mono hs⟩
        rw [← hc]
        exact World.cell?_of_block (by rw [block_add]; exact hw)
    | false =>
      obtain ⟨cur, fz, hh, h1, h2, h3, h4, h5, h6, h7⟩ := h
      exact ⟨cur, fz, hw.trans hh, h1, h2, h3, fun j v hj => by obtain ⟨v', a, b⟩ := h4 j v hj; exact ⟨v', a, b.mono hs⟩, h5, h6, h7⟩
  | map es => obtain ⟨es', clock, hh, h1, h2, h3⟩ := h; exact ⟨es', clock, hw.trans hh, h1.mono hs, h2.mono hs, h3⟩
  | iter s pos => exact ⟨hw.trans h.1, h.2⟩
  | miter m since seen stp =>
    cases m with
    | none => exact ⟨hw.trans h.1, h.2⟩
    | some m => obtain ⟨⟨i', h1, hh⟩, h2⟩ := h; exact ⟨⟨i', hs _ _ h1, hw.trans hh⟩, h2⟩
  | loop A n ps as bd st => obtain ⟨fn, tmps, D, hh, h1, h2⟩ := h; exact ⟨fn, tmps, D, hw.trans hh, h1, fun t ht => (h2 t ht).mono hs⟩

structure St (ρ : Ren) (H : Heap) (w : World) (ρ' : Ren) (H' : Heap) (w' : World) : Prop where
  mono : Sub ρ ρ'
  next : H.next ≤ H'.next
  dead : ∀ id i, ρ id = some i → H.get id = none → H'.get id = none
  ro : ∀ id i b b', ρ id = some i → H.get id = some b → b.ro = true → H'.get id = some b' → b'.ro = true
  fresh : ∀ id i, ρ' id = some i → ρ id = none → H.next ≤ id ∧ (w.heap.size ≤ i.at_.block ∨ ∃ id0 i0 b0, ρ id0 = some i0 ∧ i0.at_.block = i.at_.block ∧ H.get id0 = some b0 ∧ b0.ro = false)
  os : w'.os = w.os
  tape : w'.tape = w.tape
  output : w'.output = w.output
  size : w.heap.size ≤ w'.heap.size
  frame : ∀ b, b < w.heap.size → (∀ id i bl, ρ id = some i → H.get id = some bl → bl.ro = false → i.at_.block ≠ b) → w'.heap[b]? = w.heap[b]?

theorem St.refl (ρ : Ren) (H : Heap) (w : World) : St ρ H w ρ H w where
  mono := Sub.refl ρ
  next := Nat.le_refl _
  dead := fun _ _ _ h => h
  ro := fun _ _ b b' _ h hr h' => by rw [h] at h'; cases h'; exact hr
  fresh := fun id i h h' => by rw [h'] at h; cases h
  os := rfl
  tape := rfl
  output := rfl
  size := Nat.le_refl _
  frame := fun _ _ _ => rfl

theorem St.owned {ρ : Ren} {H : Heap} {w : World} {ρ' : Ren} {H' : Heap} {w' : World} (h : St ρ H w ρ' H' w') {id : Nat} {i : Info} {bl : Blk}
    (h1 : ρ' id = some i) (h2 : H'.get id = some bl) (h3 : bl.ro = false) :
    w.heap.size ≤ i.at_.block ∨ ∃ id0 i0 b0, ρ id0 = some i0 ∧ i0.at_.block = i.at_.block ∧ H.get id0 = some b0 ∧ b0.ro = false := by
  cases hr : ρ id with
  | none => exact (h.fresh id i h1 hr).2
  | some i0 =>
    have : i0 = i := by have := h.mono id i0 hr; rw [h1] at this; cases this; rfl
    subst this
    cases hg : H.get id with
    | none => rw [h.dead id i0 hr hg] at h2; cases h2
    | some b0 =>
      refine .inr ⟨id, i0, b0, hr, rfl, hg, ?_⟩
      cases hro : b0.ro with
      | false => rfl
      | true => rw [h.ro id i0 b0 bl hr hg hro h2] at h3; cases h3

theorem St.trans {ρ ρ1 ρ2 : Ren} {H H1 H2 : Heap} {w w1 w2 : World} (a : St ρ H w ρ1 H1 w1) (b : St ρ1 H1 w1 ρ2 H2 w2) : St ρ H w ρ2 H2 w2 where
  mono := a.mono.trans b.mono
  next := Nat.le_trans a.next b.next
  dead := fun id i h h' => b.dead id i (a.mono _ _ h) (a.dead id i h h')
  ro := fun id i bl bl' h h1 h2 h3 => by
    cases hg : H1.get id with
    | none => rw [b.dead id i (a.mono _ _ h) hg] at h3; cases h3
    | some b1 => exact b.ro id i b1 bl' (a.mono _ _ h) hg (a.ro id i bl b1 h h1 h2 hg) h3
  fresh := fun id i h h' => by
    cases hr : ρ1 id with
    | some i1 =>
      have : i1 = i := by have := b.mono id i1 hr; rw [h] at this; cases this; rfl
      subst this
      exact a.fresh id i1 hr h'
    | none =>
      obtain ⟨h1, h2⟩ := b.fresh id i h hr
      refine ⟨Nat.le_trans a.next h1, ?_⟩
      rcases h2 with h2 | ⟨id0, i0, b0, e1, e2, e3, e4⟩
      · exact .inl (Nat.le_trans a.size h2)
      · rw [← e2]; exact a.owned e1 e3 e4
  os := b.os.trans a.os
  tape := b.tape.trans a.tape
  output := b.output.trans a.output
  size := Nat.le_trans a.size b.size
  frame := fun bk hb hn => by
    rw [b.frame bk (Nat.lt_of_lt_of_le hb a.size) ?_, a.frame bk hb hn]
    intro id i bl h1 h2 h3 e
    rcases a.owned h1 h2 h3 with h | ⟨id0, i0, b0, e1, e2, e3, e4⟩
    · omega
    · exact hn id0 i0 b0 e1 e3 e4 (e2.trans e)

/-- A block that nothing known leads to. -/
structure Hid (ρ : Ren) (H : Heap) (w : World) (b : Nat) (o : Obj) : Prop where
  at_ : w.heap[b]? = some o
  un : ∀ id i bl, ρ id = some i → H.get id = some bl → i.at_.block ≠ b

theorem Hid.lt {ρ : Ren} {H : Heap} {w : World} {b : Nat} {o : Obj} (h : Hid ρ H w b o) : b < w.heap.size := (Array.getElem?_eq_some_iff.1 h.at_).1
theorem Hid.step {ρ ρ' : Ren} {H H' : Heap} {w w' : World} {b : Nat} {o : Obj} (h : Hid ρ H w b o) (hst : St ρ H w ρ' H' w') : Hid ρ' H' w' b o :=
  ⟨(hst.frame b h.lt (fun id i bl h1 h2 _ => h.un id i bl h1 h2)).trans h.at_, fun id i bl h1 h2 e => by
    cases hr : ρ id with
    | none =>
      rcases (hst.fresh id i h1 hr).2 with hh | ⟨id0, i0, b0, e1, e2, e3, e4⟩
      · have := h.lt; omega
      · exact h.un id0 i0 b0 e1 e3 (e2.trans e)
    | some i0 =>
      have : i0 = i := by have := hst.mono id i0 hr; rw [h1] at this; cases this; rfl
      subst this
      cases hg : H.get id with
      | none => rw [hst.dead id i0 hr hg] at h2; cases h2
      | some b0 => exact h.un id i0 b0 hr hg e⟩

/-- A heap that knows no more than another. -/
structure Less (H2 H1 : Heap) : Prop where
  next : H1.next ≤ H2.next
  get : ∀ id b, H2.get id = some b → H1.get id = some b

theorem Less.refl (H : Heap) : Less H H := ⟨Nat.le_refl _, fun _ _ h => h⟩
theorem Less.trans {a b c : Heap} (h : Less a b) (h' : Less b c) : Less a c := ⟨Nat.le_trans h'.next h.next, fun id x e => h'.get id x (h.get id x e)⟩
theorem Sim.less {P : Program} {ρ : Ren} {H1 H2 : Heap} {w : World} (h : Sim P ρ H1 w) (l : Less H2 H1) : Sim P ρ H2 w :=
  ⟨fun id i hi => Nat.lt_of_lt_of_le (h.dom id i hi) l.next, fun id b i hb hi => h.live id b i (l.get id b hb) hi, fun id1 id2 b1 b2 i1 i2 h1 h2 => h.sep id1 id2 b1 b2 i1 i2 (l.get _ _ h1) (l.get _ _ h2), h.glob⟩
theorem St.less {ρ ρ' : Ren} {H H1 H2 : Heap} {w w' : World} (h : St ρ H w ρ' H1 w') (l : Less H2 H1) : St ρ H w ρ' H2 w' :=
  { h with
    next := Nat.le_trans h.next l.next
    dead := fun id i hi hg => by
      cases hc : H2.get id with
      | none => rfl
      | some b => have := l.get id b hc; rw [h.dead id i hi hg] at this; cases this
    ro := fun id i b b' hi hg hr hb => h.ro id i b b' hi hg hr (l.get id b' hb) }

end Go.Ab
/- The abstract wp: rules for code, over any program. -/
set_option linter.unusedVariables false
namespace Go.Ab

/-- The temporaries, abstractly. -/
abbrev Env := Nat → Value
def upd (A : Env) (d : Nat) (v : Value) : Env := fun t => bif Nat.beq t d then v else A t
def updO (A : Env) (d : Option Nat) (v : Value) : Env := match d with | some d => upd A d v | none => A
@[simp] theorem upd_same (A : Env) (d : Nat) (v : Value) : upd A d v d = v := by simp [upd]
theorem upd_ne (A : Env) {d t : Nat} (v : Value) (h : t ≠ d) : upd A d v t = A t := by simp [upd, nbeq, h]
theorem upd_self (A : Env) (d : Nat) : upd A d (A d) = A := by
  funext t; by_cases h : t = d
  · subst h; simp
  · exact upd_ne A _ h

def ev (A : Env) : Operand → Value
  | .tmp t => A t
  | .const v => v
  | .global g => .pointer (some ⟨g, 0, none⟩)
  | .func f => .func (.func f) #[] #[]

inductive Ex where
  | normal
  | exit (id : Nat)
  | goto (l : Nat)
  | ret
  | panic (v : Value)

def ExRel (ρ : Ren) : Ex → Exit → Prop
  | .normal, .normal => True
  | .exit i, .exit j => i = j
  | .goto i, .goto j => i = j
  | .ret, .ret => True
  | .panic v, .panic ch => ∃ v', V ρ v v' ∧ ch = [{ v := v', recovered := false }]
  | _, _ => False

structure EnvRel (ρ : Ren) (n : Nat) (A : Env) (a : Act) : Prop where
  size : a.tmps.size = n
  tmps : ∀ t, t < n → V ρ (A t) (a.tmps.getD t undef)

theorem EnvRel.mono {ρ ρ' : Ren} {n : Nat} {A : Env} {a : Act} (hs : Sub ρ ρ') (h : EnvRel ρ n A a) : EnvRel ρ' n A a :=
  ⟨h.size, fun t ht => (h.tmps t ht).mono hs⟩

theorem EnvRel.put {ρ : Ren} {n : Nat} {A : Env} {a : Act} {d : Nat} {v v' : Value} (h : EnvRel ρ n A a) (hd : d < n) (hv : V ρ v v') : EnvRel ρ n (upd A d v) (a.put (some d) v') := by
  refine ⟨by simp [Act.put, h.size], fun t ht => ?_⟩
  by_cases e : t = d
  · subst e
    simp only [upd_same, Act.put]
    rw [Array.getD_eq_getD_getElem?, Array.getElem?_setIfInBounds_self_of_lt (by rw [h.size]; exact hd)]
    exact hv
  · rw [upd_ne A v e]
    have := h.tmps t ht
    simp only [Act.put]
    rw [Array.getD_eq_getD_getElem?, Array.getElem?_setIfInBounds_ne (by omega), ← Array.getD_eq_getD_getElem?]
    exact this

def dstOk (n : Nat) : Option Nat → Bool
  | some d => Nat.blt d n
  | none => true

theorem EnvRel.putO {ρ : Ren} {n : Nat} {A : Env} {a : Act} {d : Option Nat} {v v' : Value} (h : EnvRel ρ n A a) (hd : dstOk n d = true) (hv : V ρ v v') : EnvRel ρ n (updO A d v) (a.put d v') := by
  cases d with
  | none => exact h
  | some d => exact h.put (by simpa [dstOk] using hd) hv

/-- Values without an address, at most one step deep. -/
def closedV : Value → Bool
  | .agg xs => xs.all plain
  | .tuple xs => xs.all plain
  | .iface _ v => plain v
  | v => plain v

theorem V.closed {ρ : Ren} {v : Value} (h : closedV v = true) : V ρ v v := by
  have arr : ∀ xs : Array Value, xs.all plain = true → ∀ (j : Nat) x x', xs[j]? = some x → xs[j]? = some x' → V ρ x x' := fun xs hx j x x' h1 h2 => by
    rw [h1] at h2; cases h2
    exact .same x (Array.all_eq_true_iff_forall_mem.1 hx x (Array.mem_of_getElem? h1))
  cases v <;> first
    | exact .same _ h
    | exact .agg _ _ rfl (arr _ h)
    | exact .tuple _ _ rfl (arr _ h)
    | exact .iface _ _ _ (.same _ h)

/-- Operands that hold no address, or that the environment holds. -/
def okArg (P : Program) (n : Nat) : Operand → Bool
  | .tmp t => Nat.blt t n
  | .const v => closedV v
  | .global g => Nat.blt g P.globals.size
  | .func _ => true

theorem EnvRel.eval {P : Program} {ρ : Ren} {H : Heap} {w : World} {n : Nat} {A : Env} {a : Act} (hs : Sim P ρ H w) (h : EnvRel ρ n A a) {x : Operand} (hx : okArg P n x = true) : V ρ (ev A x) (a.eval x) := by
  cases x with
  | tmp t => exact h.tmps t (by simpa [okArg] using hx)
  | const v => exact .closed hx
  | global g =>
    obtain ⟨i, hi, e⟩ := hs.glob g (by simpa [okArg] using hx)
    have := V.ptr (ρ := ρ) g 0 i hi
    rw [e] at this
    exact this
  | func f => exact .func _ _ _ _ _ rfl rfl rfl (fun j x x' h => by simp at h) (fun j x x' h => by simp at h)

/-- Which loop's round a frame is of; how great the heap was where it began; what it had deferred. -/
structure Rd where
  r : Option Nat
  b : Nat
  d : List Deferred

/-- A fence that lets all in, for frames of such a round. -/
def fen (z : Rd) : Fence := { Fence.wide with round := z.r }
theorem fen_fn (z : Rd) (f : FuncId) : (fen z).fn f := trivial
theorem fen_room (z : Rd) (m : Nat) : (fen z).room m := fun d h => by simp [fen, Fence.wide] at h

/-- The mark of a loop over a function. -/
def mark (d : Nat) : Deferred := { target := .collected d, args := #[] }

/-- What a frame has besides its temporaries. -/
structure Fr (z : Rd) (ρ : Ren) (H : Heap) (w : World) (a : Act) : Prop where
  marks : ∃ ds : List Nat, a.defers = ds.map mark ++ z.d ∧ ds.Nodup ∧ ∀ d ∈ ds, z.b ≤ d ∧ Hid ρ H w d (.deferred (some []))
  round : ∀ l, z.r = some l → a.defers = [] ∧ ∃ rc, Hid ρ H w l (.loop rc)
  base : z.b ≤ w.heap.size

theorem Fr.step {z : Rd} {ρ ρ' : Ren} {H H' : Heap} {w w' : World} {a a' : Act} (h : Fr z ρ H w a) (hst : St ρ H w ρ' H' w') (ha : a'.defers = a.defers) : Fr z ρ' H' w' a' := by
  obtain ⟨ds, h1, h2, h3⟩ := h.marks
  exact ⟨⟨ds, ha.trans h1, h2, fun d hd => ⟨(h3 d hd).1, (h3 d hd).2.step hst⟩⟩, fun l hl => by
    obtain ⟨e, rc, hr⟩ := h.round l hl
    exact ⟨ha.trans e, rc, hr.step hst⟩, Nat.le_trans h.base hst.size⟩

structure EnvFr (z : Rd) (ρ : Ren) (H : Heap) (w : World) (n : Nat) (A : Env) (a : Act) : Prop extends EnvRel ρ n A a where
  fr : Fr z ρ H w a

theorem EnvFr.step {z : Rd} {ρ ρ' : Ren} {H H' : Heap} {w w' : World} {n : Nat} {A : Env} {a : Act} (h : EnvFr z ρ H w n A a) (hst : St ρ H w ρ' H' w') : EnvFr z ρ' H' w' n A a :=
  ⟨h.toEnvRel.mono hst.mono, h.fr.step hst rfl⟩
theorem put_defers (a : Act) (d : Option Nat) (v : Value) : (a.put d v).defers = a.defers := by cases d <;> rfl
theorem EnvFr.putO {z : Rd} {ρ : Ren} {H : Heap} {w : World} {n : Nat} {A : Env} {a : Act} {d : Option Nat} {v v' : Value} (h : EnvFr z ρ H w n A a) (hd : dstOk n d = true) (hv : V ρ v v') : EnvFr z ρ H w n (updO A d v) (a.put d v') :=
  ⟨h.toEnvRel.putO hd hv, h.fr.step (.refl _ _ _) (put_defers a d v')⟩

section
variable (P : Program) (n : Nat)

def Lift (z : Rd) (ρ : Ren) (H : Heap) (w : World) (Q : Ex → Env → Heap → Prop) : Exit → Act → World → Prop :=
  fun e a' w' => ∃ e' ρ' A' H', Q e' A' H' ∧ St ρ H w ρ' H' w' ∧ Sim P ρ' H' w' ∧ EnvFr z ρ' H' w' n A' a' ∧ ExRel ρ' e' e

def AWp (c : Code) (Q : Ex → Env → Heap → Prop) (A : Env) (H : Heap) : Prop :=
  ∀ z ρ w a, Sim P ρ H w → EnvFr z ρ H w n A a → c.wpIn (fen z) 0 P (Lift P n z ρ H w Q) a w
end

section
variable {P : Program} {n : Nat} {Q : Ex → Env → Heap → Prop} {A : Env} {H : Heap}

theorem Lift.weaken {z : Rd} {ρ ρ1 : Ren} {H1 : Heap} {w w1 : World} (h : St ρ H w ρ1 H1 w1) {e : Exit} {a' : Act} {w' : World} (hl : Lift P n z ρ1 H1 w1 Q e a' w') : Lift P n z ρ H w Q e a' w' := by
  obtain ⟨e', ρ', A', H', hq, hst, r⟩ := hl
  exact ⟨e', ρ', A', H', hq, h.trans hst, r⟩

theorem AWp.mono {c : Code} {Q' : Ex → Env → Heap → Prop} (h : AWp P n c Q A H) (hq : ∀ e A H, Q e A H → Q' e A H) : AWp P n c Q' A H :=
  fun z ρ w a hs he => wpIn_mono (h z ρ w a hs he) (fun e a' w' ⟨e', ρ', A', H', q, r⟩ => ⟨e', ρ', A', H', hq _ _ _ q, r⟩)

theorem awp_skip (h : Q .normal A H) : AWp P n .skip Q A H :=
  fun z ρ w a hs he => wpIn_skip ⟨.normal, ρ, A, H, h, .refl _ _ _, hs, he, trivial⟩
theorem awp_label {l : Nat} (h : Q .normal A H) : AWp P n (.label l) Q A H :=
  fun z ρ w a hs he => wpIn_label ⟨.normal, ρ, A, H, h, .refl _ _ _, hs, he, trivial⟩
theorem awp_exit {id : Nat} (h : Q (.exit id) A H) : AWp P n (.exit id) Q A H :=
  fun z ρ w a hs he => wpIn_exit ⟨.exit id, ρ, A, H, h, .refl _ _ _, hs, he, rfl⟩
theorem awp_goto {l : Nat} (h : Q (.goto l) A H) : AWp P n (.goto l) Q A H :=
  fun z ρ w a hs he => wpIn_goto ⟨.goto l, ρ, A, H, h, .refl _ _ _, hs, he, rfl⟩
theorem awp_ret (h : Q .ret A H) : AWp P n .ret Q A H :=
  fun z ρ w a hs he => wpIn_ret ⟨.ret, ρ, A, H, h, .refl _ _ _, hs, he, trivial⟩

/-- What a first part must give for a second one. -/
def Then (k : Env → Heap → Prop) (Q : Ex → Env → Heap → Prop) : Ex → Env → Heap → Prop
  | .normal, A, H => k A H
  | e, A, H => Q e A H

theorem awp_seq {x y : Code} (h : AWp P n x (Then (AWp P n y Q) Q) A H) : AWp P n (.seq x y) Q A H := by
  intro z ρ w a hs he
  refine wpIn_seq (wpIn_mono (h z ρ w a hs he) ?_)
  rintro e a1 w1 ⟨e', ρ1, A1, H1, hq, hst, hs1, he1, hr⟩
  cases e' <;> cases e <;> simp only [ExRel] at hr
  case normal.normal =>
    exact wpIn_mono (hq z ρ1 w1 a1 hs1 he1) (fun e a' w' hl => Lift.weaken hst hl)
  all_goals exact ⟨_, ρ1, A1, H1, hq, hst, hs1, he1, by first | trivial | exact hr⟩

theorem awp_cond {c : Operand} {x y : Code} {t : Bool} (hok : okArg P n c = true) (hc : ev A c = .bool t) (h : AWp P n (if t then x else y) Q A H) : AWp P n (.cond c x y) Q A H := by
  intro z ρ w a hs he
  have hv := he.eval hs hok
  rw [hc] at hv
  have hb : a.eval c = .bool t := by
    generalize a.eval c = z at hv
    cases hv with
    | same _ _ => rfl
  exact wpIn_cond hb (h z ρ w a hs he)

theorem awp_cond_split {t : Nat} {x y : Code} {b : Bool} (hok : Nat.blt t n = true) (hc : A t = .bool b) (h1 : b = true → AWp P n x Q A H) (h0 : b = false → AWp P n y Q A H) : AWp P n (.cond (.tmp t) x y) Q A H := by
  cases b
  · exact awp_cond (t := false) hok hc (h0 rfl)
  · exact awp_cond (t := true) hok hc (h1 rfl)

def InBlock (id : Nat) (Q : Ex → Env → Heap → Prop) : Ex → Env → Heap → Prop
  | .exit id', A, H => if id' = id then Q .normal A H else Q (.exit id') A H
  | e, A, H => Q e A H

theorem awp_block {id : Nat} {c : Code} (h : AWp P n c (InBlock id Q) A H) : AWp P n (.block id c) Q A H := by
  intro z ρ w a hs he
  refine wpIn_block (wpIn_mono (h z ρ w a hs he) ?_)
  rintro e a1 w1 ⟨e', ρ1, A1, H1, hq, hst, hs1, he1, hr⟩
  cases e' <;> cases e <;> simp only [ExRel] at hr
  case exit.exit i j =>
    subst hr
    simp only [Exit.inBlock, InBlock] at *
    split at hq
    · rename_i e; rw [if_pos e]; exact ⟨.normal, ρ1, A1, H1, hq, hst, hs1, he1, trivial⟩
    · rename_i e; rw [if_neg e]; exact ⟨.exit i, ρ1, A1, H1, hq, hst, hs1, he1, rfl⟩
  all_goals exact ⟨_, ρ1, A1, H1, hq, hst, hs1, he1, by first | trivial | exact hr⟩

theorem awp_loop {c : Code} (I : Env → Heap → Prop) (μ : Env → Heap → Nat) (h0 : I A H)
    (round : ∀ A H, I A H → AWp P n c (Then (fun A' H' => I A' H' ∧ μ A' H' < μ A H) Q) A H) : AWp P n (.loop c) Q A H := by
  intro z ρ w a hs he b k cs hro hb hr
  have key : ∀ m, ∀ A1 H1 ρ1 w1 a1, μ A1 H1 = m → I A1 H1 → St ρ H w ρ1 H1 w1 → Sim P ρ1 H1 w1 → EnvFr z ρ1 H1 w1 n A1 a1 →
      ∃ e a' w', Lift P n z ρ H w Q e a' w' ∧ ArrivesIn (Machine.fenced P (fen z)) P (lone (b.atR a1 (.code c :: .inLoop c :: k)) cs w1) b k cs e a' w' := by
    intro m
    induction m using Nat.strongRecOn with
    | _ m ih =>
      intro A1 H1 ρ1 w1 a1 hm hI hst hs1 he1
      obtain ⟨e, a2, w2, hl, harr⟩ := round A1 H1 hI z ρ1 w1 a1 hs1 he1 b (.inLoop c :: k) cs hro hb hr
      obtain ⟨e', ρ2, A2, H2, hq, hst2, hs2, he2, hrr⟩ := hl
      have hst' := hst.trans hst2
      cases e' <;> cases e <;> simp only [ExRel] at hrr
      case normal.normal =>
        obtain ⟨hI2, hlt⟩ := hq
        obtain ⟨e3, a3, w3, hq3, harr3⟩ := ih (μ A2 H2) (hm ▸ hlt) A2 H2 ρ2 w2 a2 rfl hI2 hst' hs2 he2
        exact ⟨e3, a3, w3, hq3, .of_steps (StepsIn.trans harr (.one (fenced_calm hb hr rfl) stepR_inLoop)) harr3⟩
      all_goals exact ⟨_, a2, w2, ⟨_, ρ2, A2, H2, hq, hst', hs2, he2, by first | trivial | exact hrr⟩, .pass (x := .inLoop c) rfl (fun _ _ => .inl (by simp)) harr⟩
  obtain ⟨e, a', w', hq, harr⟩ := key _ A H ρ w a rfl h0 (.refl _ _ _) hs he
  exact ⟨e, a', w', hq, .of_steps (.one (fenced_calm hb hr rfl) stepR_loop) harr⟩
end
end Go.Ab
/- Operations, abstractly: what each must give; new blocks, loads, stores. -/
set_option linter.unusedVariables false
namespace Go.Ab

/-- An operation's operands are alike. -/
noncomputable def OpRel (ρ : Ren) (o : Oper) (A : Env) (a : Act) : Prop := ∀ x ∈ o.op.operands, V ρ (ev A x) (a.eval x)

section
variable (P : Program) (n : Nat)

/-- What can be asked of an operation's slots by its text. -/
noncomputable def okOp (o : Oper) : Bool := dstOk n o.dst && o.op.operands.all (okArg P n)

/-- An operation gives a value, and leaves such a heap. -/
noncomputable def OpDoes (o : Oper) (A : Env) (H : Heap) (v : Value) (H' : Heap) : Prop :=
  ∀ ρ w a, Sim P ρ H w → OpRel ρ o A a → ∀ (K : Act → World → Prop) (Q : Exit → Act → World → Prop),
    (∀ v' ρ' w', V ρ' v v' → St ρ H w ρ' H' w' → Sim P ρ' H' w' → K (a.put o.dst v') w') → ∀ z, o.wpIn (fen z) 0 P a w K Q

/-- The rest of a region. -/
noncomputable def AOps (ops : Array Oper) (l : List Oper) (Q : Ex → Env → Heap → Prop) (A : Env) (H : Heap) : Prop :=
  ∀ z ρ w a, Sim P ρ H w → EnvFr z ρ H w n A a → wpListIn (fen z) 0 P ops (Lift P n z ρ H w Q) l a w
end

/-- What the model does at an operation that does not defer is the same in all rounds. -/
theorem semAt_of {P : Program} {o : Oper} {a : Act} {w w' : World} {x : Next} (h : (execOp a.eval o).run P w = .ok x w') (hd : ∀ d, x ≠ .defer d) (r : Option Nat) : (o.semAt r a.eval).run P w = .ok x w' := by
  by_cases hop : ∀ c, o.op ≠ .defer c
  · rw [Oper.semAt_eq _ _ _ hop]; exact h
  · exfalso
    obtain ⟨c, hc⟩ := Classical.not_forall.1 hop
    have hc : o.op = .defer c := Classical.not_not.1 hc
    simp only [execOp, hc, Sem.run_bind] at h
    cases hr : (resolve a.eval c o.type).run P w with
    | ok d w1 =>
      rw [hr] at h
      simp only [Result.andThen_ok, Sem.run_pure, Result.ok.injEq] at h
      exact hd d h.1.symm
    | halt y w1 => rw [hr] at h; simp [Result.andThen] at h

section
variable {P : Program} {n : Nat} {Q : Ex → Env → Heap → Prop} {A : Env} {H : Heap}

theorem OpDoes.of_run {o : Oper} {v : Value} {H' : Heap}
    (h : ∀ ρ w a, Sim P ρ H w → OpRel ρ o A a → ∃ v' ρ' w', (execOp a.eval o).run P w = .ok (.value v') w' ∧ V ρ' v v' ∧ St ρ H w ρ' H' w' ∧ Sim P ρ' H' w') : OpDoes P o A H v H' := by
  intro ρ w a hs he K Q hk
  obtain ⟨v', ρ', w', hr, hv, hst, hs'⟩ := h ρ w a hs he
  intro z
  refine ⟨fun _ _ => trivial, ?_⟩
  rw [semAt_of hr (by simp) _]
  exact hk v' ρ' w' hv hst hs'

theorem OpDoes.of_skip {o : Oper} {H' : Heap}
    (h : ∀ ρ w a, Sim P ρ H w → OpRel ρ o A a → ∃ ρ' w', (execOp a.eval o).run P w = .ok .skip w' ∧ St ρ H w ρ' H' w' ∧ Sim P ρ' H' w') : OpDoes P o A H undef H' := by
  intro ρ w a hs he K Q hk
  obtain ⟨ρ', w', hr, hst, hs'⟩ := h ρ w a hs he
  intro z
  refine ⟨fun _ _ => trivial, ?_⟩
  rw [semAt_of hr (by simp) _]
  exact hk undef ρ' w' (.closed (by simp [undef, closedV])) hst hs'

/-- An operation that touches no memory. -/
theorem OpDoes.pure_ {o : Oper} {v : Value}
    (h : ∀ ρ w a, Sim P ρ H w → OpRel ρ o A a → ∃ v', (execOp a.eval o).run P w = .ok (.value v') w ∧ V ρ v v') : OpDoes P o A H v H :=
  .of_run fun ρ w a hs he => by
    obtain ⟨v', hr, hv⟩ := h ρ w a hs he
    exact ⟨v', ρ, w, hr, hv, .refl _ _ _, hs⟩

theorem EnvRel.op {ρ : Ren} {w : World} {a : Act} (hs : Sim P ρ H w) (he : EnvRel ρ n A a) {o : Oper} (ho : okOp P n o = true) : OpRel ρ o A a := fun x hx => by
  simp only [okOp, Bool.and_eq_true] at ho
  exact he.eval hs (Array.all_eq_true_iff_forall_mem.1 ho.2 x hx)

theorem okOp_dst {o : Oper} (ho : okOp P n o = true) : dstOk n o.dst = true := by simp only [okOp, Bool.and_eq_true] at ho; exact ho.1

theorem aops_nil {ops : Array Oper} (h : Q .normal A H) : AOps P n ops [] Q A H :=
  fun z ρ w a hs he => ⟨.normal, ρ, A, H, h, .refl _ _ _, hs, he, trivial⟩

theorem uponIn_mono {z : Rd} {o : Oper} {a : Act} {K K' : Act → World → Prop} {Q1 Q2 : Exit → Act → World → Prop} (hk : ∀ a w, K a w → K' a w) (hq : ∀ e a w, Q1 e a w → Q2 e a w) {r : Result Next}
    (h : o.uponIn (fen z) 0 P a K Q1 r) : o.uponIn (fen z) 0 P a K' Q2 r := by
  cases r with
  | ok nx w1 =>
    cases nx <;> simp only [Oper.uponIn] at h ⊢ <;> first
      | exact hk _ _ h
      | exact ⟨h.1, CallsIn.mono h.2 (fun e w2 he => by
          cases e with
          | returned v => exact hk _ _ he
          | panicked ch => exact hq _ _ _ he
          | outgrown => obtain ⟨a0, w0, hh⟩ := he; exact ⟨a0, w0, hq _ _ _ hh⟩)⟩
      | exact ⟨h.1, RowsIn.mono h.2 (fun v w2 he => hk _ _ he)⟩
      | exact ⟨h.1, RoundIn.mono h.2 (fun e w2 he => by
          cases e with
          | returned v => exact hk _ _ he
          | panicked ch => exact hq _ _ _ he
          | outgrown => obtain ⟨a0, w0, hh⟩ := he; exact ⟨a0, w0, hq _ _ _ hh⟩)⟩
  | halt x w1 => cases x <;> simp only [Oper.uponIn] at h ⊢ <;> exact hq _ _ _ h

theorem wpList_mono_post {z : Rd} {ops : Array Oper} {Q1 Q2 : Exit → Act → World → Prop} (hq : ∀ e a w, Q1 e a w → Q2 e a w) : ∀ (l : List Oper) (a : Act) (w : World), wpListIn (fen z) 0 P ops Q1 l a w → wpListIn (fen z) 0 P ops Q2 l a w
  | [], a, w, h => hq _ _ _ h
  | o :: rest, a, w, h => by
    unfold wpListIn at h ⊢
    split at h
    · rename_i hw
      rw [if_pos hw]
      exact ⟨h.1, uponIn_mono (wpList_mono_post hq rest) hq h.2⟩
    · rename_i hw
      rw [if_neg hw]
      exact ⟨h.1, wpList_mono_post hq rest _ _ h.2⟩

theorem wpList_lift {z : Rd} {ops : Array Oper} {rest : List Oper} {ρ ρ' : Ren} {H H' : Heap} {w w' : World} {a : Act} {w0 : World} (hst : St ρ H w ρ' H' w')
    (h : wpListIn (fen z) 0 P ops (Lift P n z ρ' H' w' Q) rest a w0) : wpListIn (fen z) 0 P ops (Lift P n z ρ H w Q) rest a w0 :=
  wpList_mono_post (fun e a' w1 hl => Lift.weaken hst hl) rest a w0 h

theorem aops_cons {ops : Array Oper} {o : Oper} {rest : List Oper} {v : Value} {H' : Heap} (hg : o.guard = none) (ho : OpDoes P o A H v H') (hd : okOp P n o = true)
    (h : AOps P n ops rest Q (updO A o.dst v) H') : AOps P n ops (o :: rest) Q A H := by
  intro z ρ w a hs he
  refine wpListIn_plain hg fun K hK => ?_
  refine ho ρ w a hs (he.op hs hd) K _ (fun v' ρ' w' hv hst hs' => ?_) z
  have := h z ρ' w' (a.put o.dst v') hs' ((he.step hst).putO (okOp_dst hd) hv)
  exact hK _ _ (wpList_lift hst this)

/-- Whether a guarded operation runs: the slot of the operation that guards it. -/
noncomputable def guardSlot (ops : Array Oper) (j : Nat) : Option Nat := (ops[j]?).bind (·.dst)

theorem aops_guard {ops : Array Oper} {o : Oper} {rest : List Oper} {j t : Nat} {want b : Bool} (hg : o.guard = some (j, want)) (hj : guardSlot ops j = some t) (ht : Nat.blt t n = true) (hb : A t = .bool b)
    (hyes : b = want → ∃ v H', OpDoes P o A H v H' ∧ AOps P n ops rest Q (updO A o.dst v) H') (hno : b ≠ want → AOps P n ops rest Q (updO A o.dst undef) H) (hd : okOp P n o = true) : AOps P n ops (o :: rest) Q A H := by
  intro z ρ w a hs he
  have hv := he.tmps t (by simpa using ht)
  rw [hb] at hv
  have hlt : t < a.tmps.size := by rw [he.size]; simpa using ht
  have hcb : a.tmps[t]? = some (.bool b) := by
    rw [Array.getD_eq_getD_getElem?, Array.getElem?_eq_getElem hlt] at hv
    rw [Array.getElem?_eq_getElem hlt]
    simp only [Option.getD_some] at hv
    generalize a.tmps[t] = z at hv
    cases hv with
    | same _ _ => rfl
  have hy : yielded ops a.tmps j = some b := by
    unfold yielded
    unfold guardSlot at hj
    rw [hj]
    simp [hcb]
  by_cases e : b = want
  · obtain ⟨v, H', ho, h⟩ := hyes e
    refine wpListIn_step fun K hK => ?_
    have hw : Region.wanted o (yielded ops a.tmps) = true := by simp [Region.wanted, hg, hy, e]
    rw [if_pos hw]
    refine ho ρ w a hs (he.op hs hd) K _ (fun v' ρ' w' hv hst hs' => ?_) z
    have := h z ρ' w' (a.put o.dst v') hs' ((he.step hst).putO (okOp_dst hd) hv)
    exact hK _ _ (wpList_lift hst this)
  · refine wpListIn_step fun K hK => ?_
    have hw : Region.wanted o (yielded ops a.tmps) = false := by simp [Region.wanted, hg, hy, e]
    rw [if_neg (by rw [hw]; simp)]
    exact ⟨fun _ _ => trivial, hK _ _ (hno e z ρ w _ hs (he.putO (okOp_dst hd) (.closed (by simp [undef, closedV]))))⟩

theorem awp_region {id : Nat} {l : List Oper} (h : AOps P n l.toArray l Q A H) : AWp P n (.region id l.toArray false) Q A H :=
  fun z ρ w a hs he => wpIn_region_lit (h z ρ w a hs he)

/-! ### New blocks -/

noncomputable def ext (ρ : Ren) (id : Nat) (i : Info) : Ren := fun x => if x = id then some i else ρ x
theorem ext_same (ρ : Ren) (id : Nat) (i : Info) : ext ρ id i id = some i := by simp [ext]
theorem ext_ne (ρ : Ren) {id x : Nat} (i : Info) (h : x ≠ id) : ext ρ id i x = ρ x := by simp [ext, h]
theorem sub_ext {ρ : Ren} {id : Nat} (i : Info) (h : ρ id = none) : Sub ρ (ext ρ id i) := fun x j hx => by
  by_cases e : x = id
  · subst e; rw [h] at hx; cases hx
  · rw [ext_ne ρ i e]; exact hx

theorem Sim.none_next {ρ : Ren} {w : World} (hs : Sim P ρ H w) : ρ H.next = none := by
  cases h : ρ H.next with
  | none => rfl
  | some i => have := hs.dom _ _ h; omega

theorem alloc_heap_old (w : World) (o : Obj) {b : Nat} (h : b < w.heap.size) : (w.alloc o).heap[b]? = w.heap[b]? := by
  simp only [World.alloc, Array.getElem?_push]
  rw [if_neg (by omega)]

/-- A new block: the world has it at its end. -/
theorem Sim.push {ρ : Ren} {w : World} (hs : Sim P ρ H w) (o : Obj) (b : Blk) (i : Info) (hi : i.at_.block = w.heap.size)
    (hb : BlkRel P (ext ρ H.next i) i (w.alloc o) b) : St ρ H w (ext ρ H.next i) (H.push b) (w.alloc o) ∧ Sim P (ext ρ H.next i) (H.push b) (w.alloc o) := by
  have hn := hs.none_next
  have hsub := sub_ext i hn
  have hlt : ∀ id j, ρ id = some j → id ≠ H.next := fun id j h e => by rw [e, hn] at h; cases h
  refine ⟨⟨hsub, by simp, fun id j h h' => ?_, fun id j b1 b' h h1 h2 h3 => ?_, fun id j h h' => ?_, rfl, rfl, rfl, by simp, fun bk hbk _ => alloc_heap_old w o hbk⟩, ⟨fun id j h => ?_, fun id bl j h h' => ?_, fun id1 id2 b1 b2 i1 i2 h1 h2 h3 h4 h5 h6 => ?_, fun g hg => ?_⟩⟩
  · rw [Heap.get_push, if_neg (hlt id j h)]; exact h'
  · rw [Heap.get_push, if_neg (hlt id j h), h1] at h3; cases h3; exact h2
  · by_cases e : id = H.next
    · subst e; rw [ext_same] at h; cases h; exact ⟨Nat.le_refl _, .inl (by rw [hi]; exact Nat.le_refl _)⟩
    · rw [ext_ne ρ i e, h'] at h; cases h
  · by_cases e : id = H.next
    · subst e; simp
    · rw [ext_ne ρ i e] at h; have := hs.dom _ _ h; simp; omega
  · by_cases e : id = H.next
    · subst e; rw [ext_same] at h'; cases h'; rw [Heap.get_push, if_pos rfl] at h; cases h; exact hb
    · rw [ext_ne ρ i e] at h'; rw [Heap.get_push, if_neg e] at h
      have hr := hs.live id bl j h h'
      exact hr.mono hsub (alloc_heap_old w o hr.lt)
  · by_cases e1 : id1 = H.next
    · by_cases e2 : id2 = H.next
      · exact absurd (e1.trans e2.symm) h6
      · rw [ext_ne ρ i e2] at h4; rw [Heap.get_push, if_neg e2] at h2
        subst e1; rw [ext_same] at h3; cases h3
        have := (hs.live id2 b2 i2 h2 h4).lt
        omega
    · rw [ext_ne ρ i e1] at h3; rw [Heap.get_push, if_neg e1] at h1
      by_cases e2 : id2 = H.next
      · subst e2; rw [ext_same] at h4; cases h4
        have := (hs.live id1 b1 i1 h1 h3).lt
        omega
      · rw [ext_ne ρ i e2] at h4; rw [Heap.get_push, if_neg e2] at h2
        exact hs.sep id1 id2 b1 b2 i1 i2 h1 h2 h3 h4 h5 h6
  · obtain ⟨j, hj, e⟩ := hs.glob g hg
    exact ⟨j, hsub _ _ hj, e⟩

/-- Cells of a new block. -/
theorem BlkRel.new {ρ : Ren} {w : World} {c : List Value} {c' : Array Value} {e : TypeId} (hc : VL ρ c c'.toList) :
    BlkRel P ρ ⟨⟨w.heap.size, 0, none⟩, c.length, P.cellsOf e⟩ (w.alloc (.cells c' e)) (.cells c e false) := by
  have hl := hc.1
  refine ⟨c', (0, 0), heap_alloc_new w _, ⟨rfl, rfl⟩, by simpa using hl, Nat.le_refl _, fun j v hj => ?_, fun o _ _ => by simp, fun o v h1 h2 => ?_, rfl⟩
  · obtain ⟨v', h1, h2⟩ := hc.get hj
    exact ⟨v', by simpa using h1, h2⟩
  · have := (Array.getElem?_eq_some_iff.1 h2).1
    simp at h1 hl
    omega

theorem Sim.pushCells {ρ : Ren} {w : World} (hs : Sim P ρ H w) {c : List Value} {c' : Array Value} (e : TypeId) (hc : VL ρ c c'.toList) :
    let i : Info := ⟨⟨w.heap.size, 0, none⟩, c.length, P.cellsOf e⟩
    St ρ H w (ext ρ H.next i) (H.push (.cells c e false)) (w.alloc (.cells c' e)) ∧ Sim P (ext ρ H.next i) (H.push (.cells c e false)) (w.alloc (.cells c' e)) :=
  hs.push _ _ _ rfl (BlkRel.new (hc.mono (sub_ext _ hs.none_next)))

theorem V.cells {ρ : Ren} {v v' : Value} (h : V ρ v v') : VL ρ v.cells.toList v'.cells.toList := by
  have one : ∀ {x x' : Value}, V ρ x x' → VL ρ [x] [x'] := fun h => .cons h (.nil ρ)
  cases h with
  | same v hp => cases v <;> simp [plain] at hp <;> exact one (.same _ (by simp [plain, *]))
  | agg xs xs' h1 h2 => exact ⟨by simpa [Value.cells] using h1, fun j x x' e e' => h2 j x x' (by simpa [Value.cells] using e) (by simpa [Value.cells] using e')⟩
  | ptr id off i h => exact one (.ptr id off i h)
  | slice id off len cap cap' i a' h h1 h2 h0 h3 h4 => exact one (.slice id off len cap cap' i a' h h1 h2 h0 h3 h4)
  | map id i h => exact one (.map id i h)
  | func fn xs ys xs' ys' hn h1 h2 h3 h4 => exact one (.func fn xs ys xs' ys' hn h1 h2 h3 h4)
  | yield l i h => exact one (.yield l i h)
  | iface t v v' h => exact one (.iface t v v' h)
  | tuple xs xs' h1 h2 => exact one (.tuple xs xs' h1 h2)

theorem V.oneCell {ρ : Ren} {v v' : Value} (h : V ρ v v') : v'.oneCell' = v.oneCell' := by cases h <;> rfl

theorem VL.closed {ρ : Ren} {l : List Value} (h : l.all plain = true) : VL ρ l l :=
  ⟨rfl, fun j x x' a b => by rw [a] at b; cases b; exact .same x (List.all_eq_true.1 h x (List.mem_of_getElem? a))⟩

/-! ### Loads -/

noncomputable def isAggD : TypeDesc → Bool
  | .struct _ | .array _ _ => true
  | _ => false

/-- What a place of a type holds. -/
noncomputable def aload (P : Program) (t : TypeId) (a : Addr) (H : Heap) : Option Value :=
  match P.underlying t, P.info? t, H.get a.block with
  | some d, some inf, some (.cells c _ _) =>
    if isAggD d then (if a.off + inf.size ≤ c.length then some (.agg ((c.drop a.off).take inf.size).toArray) else none)
    else c[a.off]?
  | _, _, _ => none

theorem BlkRel.cellAt {ρ : Ren} {i : Info} {w : World} {c : List Value} {e : TypeId} {ro : Bool} (h : BlkRel P ρ i w (.cells c e ro)) {j : Nat} {v : Value} (hj : c[j]? = some v) :
    ∃ v', w.cell? (i.at_.add j) = some v' ∧ V ρ v v' := by
  cases ro with
  | true => exact h.2 j v hj
  | false =>
    obtain ⟨cur, fz, hh, h1, h2, h3, h4, _⟩ := h
    obtain ⟨v', ha, hv⟩ := h4 j v hj
    refine ⟨v', ?_, hv⟩
    rw [add_none h1.1, cell_of_row w _ _ cur e fz hh]
    exact ha

theorem BlkRel.cellsAt {ρ : Ren} {i : Info} {w : World} {c : List Value} {e : TypeId} {ro : Bool} (h : BlkRel P ρ i w (.cells c e ro)) (off k : Nat) (hk : off + k ≤ c.length) :
    ∃ cs : List Value, cs.length = k ∧ VL ρ ((c.drop off).take k) cs ∧ (∀ (j : Nat) v, cs[j]? = some v → w.cell? ((i.at_.add off).add j) = some v) := by
  induction k generalizing off with
  | zero => exact ⟨[], rfl, by simpa using VL.nil ρ, fun j v h => by simp at h⟩
  | succ k ih =>
    have hlt : off < c.length := by omega
    obtain ⟨cs, hl, hvl, hc⟩ := ih (off + 1) (by omega)
    obtain ⟨v', h1, h2⟩ := h.cellAt (List.getElem?_eq_getElem hlt)
    refine ⟨v' :: cs, by simp [hl], ?_, fun j v hj => ?_⟩
    · rw [List.drop_eq_getElem_cons hlt, List.take_succ_cons]
      exact .cons h2 hvl
    · cases j with
      | zero => simp at hj; subst hj; rw [show (i.at_.add off).add 0 = i.at_.add off by rw [add_add]; rfl]; exact h1
      | succ j =>
        have := hc j v (by simpa using hj)
        rw [add_add] at this ⊢
        rw [show off + (j + 1) = off + 1 + j by omega]; exact this

theorem run_aload {ρ : Ren} {w : World} {t : TypeId} {id off : Nat} {v : Value} {i : Info} {c : List Value} {e : TypeId} {ro : Bool} (hi : ρ id = some i) (hg : H.get id = some (.cells c e ro)) (hb : BlkRel P ρ i w (.cells c e ro))
    (hl : aload P t ⟨id, off, none⟩ H = some v) : ∃ v', (loadVar t (i.at_.add off)).run P w = .ok v' w ∧ V ρ v v' := by
  unfold aload at hl
  cases hu : P.underlying t with
  | none => simp [hu] at hl
  | some d =>
    cases hf : P.info? t with
    | none => simp [hu, hf] at hl
    | some inf =>
      simp only [hu, hf, hg] at hl
      have hagg : (isAgg t).run P w = .ok (isAggD d) w := by
        simp only [isAgg, Sem.run_bind, run_underlying hu, Result.andThen_ok]
        cases d <;> rfl
      split at hl
      · rename_i hd
        split at hl
        · rename_i hlen
          obtain ⟨cs, h1, h2, h3⟩ := hb.cellsAt off inf.size hlen
          cases hl
          refine ⟨.agg cs.toArray, ?_, .agg _ _ (by simpa using h2.1) (fun j x x' a b => h2.2 j x x' (by simpa using a) (by simpa using b))⟩
          have := run_loadCells_list (P := P) w (i.at_.add off) cs h3
          rw [h1] at this
          simp only [loadVar, Sem.run_bind, hagg, Result.andThen_ok, hd, if_true, sizeOf, typeInfo, run_program, hf, Sem.run_pure, this]
        · cases hl
      · rename_i hd
        obtain ⟨v', h1, h2⟩ := hb.cellAt hl
        refine ⟨v', ?_, h2⟩
        simp only [loadVar, Sem.run_bind, hagg, Result.andThen_ok, hd, Bool.false_eq_true, if_false, run_load, h1]

end
end Go.Ab
/- Stores: a block of the heap turns, all else stays. -/
set_option linter.unusedVariables false
namespace Go.Ab
section
variable {P : Program} {n : Nat} {Q : Ex → Env → Heap → Prop} {A : Env} {H : Heap}

/-- A world that differs from another in one block alone. -/
structure OneBlk (w w' : World) (g : Nat) : Prop where
  other : ∀ b, b ≠ g → w'.heap[b]? = w.heap[b]?
  size : w'.heap.size = w.heap.size
  os : w'.os = w.os
  tape : w'.tape = w.tape
  output : w'.output = w.output

theorem OneBlk.refl (w : World) (g : Nat) : OneBlk w w g := ⟨fun _ _ => rfl, rfl, rfl, rfl, rfl⟩
theorem OneBlk.trans {w w1 w2 : World} {g : Nat} (a : OneBlk w w1 g) (b : OneBlk w1 w2 g) : OneBlk w w2 g :=
  ⟨fun k hk => (b.other k hk).trans (a.other k hk), b.size.trans a.size, b.os.trans a.os, b.tape.trans a.tape, b.output.trans a.output⟩

theorem Sim.setBlk {ρ : Ren} {w w' : World} (hs : Sim P ρ H w) {id : Nat} {i : Info} {b b' : Blk} (hi : ρ id = some i) (hg : H.get id = some b) (hro : b.ro = false)
    (hw : OneBlk w w' i.at_.block) (hb : BlkRel P ρ i w' b') : St ρ H w ρ (H.set id b') w' ∧ Sim P ρ (H.set id b') w' := by
  refine ⟨⟨.refl ρ, Nat.le_refl _, fun x j h h' => ?_, fun x j b1 b2 h h1 h2 h3 => ?_, fun x j h h' => (by rw [h'] at h; cases h), hw.os, hw.tape, hw.output, (by rw [hw.size]; exact Nat.le_refl _), fun k hk hn => ?_⟩, ⟨fun x j h => hs.dom x j h, fun x bl j h h' => ?_, fun id1 id2 b1 b2 i1 i2 h1 h2 h3 h4 h5 h6 => ?_, hs.glob⟩⟩
  · rw [Heap.get_set]; by_cases e : x = id
    · subst e; rw [hg] at h'; cases h'
    · rw [if_neg e]; exact h'
  · rw [Heap.get_set] at h3
    by_cases e : x = id
    · subst e; rw [hg] at h1; cases h1; rw [hro] at h2; cases h2
    · rw [if_neg e, h1] at h3; cases h3; exact h2
  · exact hw.other k (fun e => hn id i b hi hg hro e.symm)
  · rw [Heap.get_set] at h
    by_cases e : x = id
    · subst e; rw [if_pos rfl] at h; cases h; rw [hi] at h'; cases h'; exact hb
    · rw [if_neg e] at h
      refine (hs.live x bl j h h').mono (.refl ρ) (hw.other _ ?_)
      exact fun e' => hs.sep id x b bl i j hg h hi h' hro (fun h => e h.symm) e'.symm
  · rw [Heap.get_set] at h1 h2
    by_cases e1 : id1 = id
    · subst e1
      rw [if_neg (fun h => h6 h.symm)] at h2
      exact hs.sep id1 id2 b b2 i1 i2 hg h2 h3 h4 hro h6
    · rw [if_neg e1] at h1
      by_cases e2 : id2 = id
      · subst e2
        exact hs.sep id1 id2 b1 b i1 i2 h1 hg h3 h4 h5 h6
      · rw [if_neg e2] at h2
        exact hs.sep id1 id2 b1 b2 i1 i2 h1 h2 h3 h4 h5 h6

noncomputable def splice (c : List Value) (p : Nat) (vs : List Value) : List Value := c.take p ++ (vs ++ c.drop (p + vs.length))

theorem splice_length {c : List Value} {p : Nat} {vs : List Value} (h : p + vs.length ≤ c.length) : (splice c p vs).length = c.length := by
  simp [splice]; omega

theorem splice_get {c : List Value} {p : Nat} {vs : List Value} (h : p + vs.length ≤ c.length) (o : Nat) : (splice c p vs)[o]? = if p ≤ o ∧ o < p + vs.length then vs[o - p]? else c[o]? := by
  unfold splice
  by_cases h1 : o < p
  · rw [List.getElem?_append_left (by simp; omega), if_neg (by omega), List.getElem?_take, if_pos h1]
  · rw [List.getElem?_append_right (by simp; omega)]
    simp only [List.length_take, Nat.min_eq_left (show p ≤ c.length by omega)]
    by_cases h2 : o < p + vs.length
    · rw [List.getElem?_append_left (by omega), if_pos ⟨by omega, h2⟩]
    · rw [List.getElem?_append_right (by omega), if_neg (by omega), List.getElem?_drop]
      congr 1; omega

theorem setCell_block (w : World) (g o : Nat) (cur : Array Value) (e : TypeId) (fz : Nat × Nat) (v : Value) (hg : w.heap[g]? = some (.cells cur e fz)) :
    (w.setCell ⟨g, o, none⟩ v).heap[g]? = some (.cells (cur.setIfInBounds o v) e fz) ∧ OneBlk w (w.setCell ⟨g, o, none⟩ v) g := by
  refine ⟨by simp [World.setCell, Array.getElem?_modify, hg], ⟨fun b hb => ?_, by simp, rfl, rfl, rfl⟩⟩
  simp only [World.setCell, Array.getElem?_modify]
  rw [if_neg (fun e => hb e.symm)]

theorem run_store_list (P : Program) (g o : Nat) (e : TypeId) (fz : Nat × Nat) : ∀ (vs : List Value) (i : Nat) (cur : Array Value) (w : World), w.heap[g]? = some (.cells cur e fz) → o + i + vs.length ≤ cur.size →
    (∀ k, o + i ≤ k → k < o + i + vs.length → ¬ (fz.1 ≤ k ∧ k < fz.2)) → (∀ v ∈ vs, v.oneCell' = true) →
    ∃ w' cur', (storeCells ⟨g, o, none⟩ vs i).run P w = .ok () w' ∧ w'.heap[g]? = some (.cells cur' e fz) ∧ OneBlk w w' g ∧ cur'.size = cur.size ∧
      ∀ k, cur'[k]? = if o + i ≤ k ∧ k < o + i + vs.length then vs[k - (o + i)]? else cur[k]?
  | [], i, cur, w, hg, _, _, _ => ⟨w, cur, rfl, hg, .refl _ _, rfl, fun k => by rw [if_neg (by simp)]⟩
  | v :: rest, i, cur, w, hg, hl, hf, h1 => by
    simp only [List.length_cons] at hl hf
    have hlt : o + i < cur.size := by omega
    have hcell : w.cell? ⟨g, o + i, none⟩ = some cur[o + i] := by
      rw [cell_of_row w g (o + i) cur e fz hg, Array.getElem?_eq_getElem hlt]
    have hfz : w.frozen? ⟨g, o + i, none⟩ = false := by
      simp only [World.frozen?, hg]
      have := hf (o + i) (by omega) (by omega)
      simp only [Bool.and_eq_false_iff, decide_eq_false_iff_not]
      by_cases hh : fz.1 ≤ o + i
      · right; exact fun hx => this ⟨hh, hx⟩
      · left; exact hh
    have hst : (store ((⟨g, o, none⟩ : Addr).add i) v).run P w = .ok () (w.setCell ⟨g, o + i, none⟩ v) := by
      rw [add_lit, run_store P w _ v _ (h1 v (by simp)), hcell]
      simp [hfz]
    obtain ⟨hg1, hone⟩ := setCell_block w g (o + i) cur e fz v hg
    obtain ⟨w', cur', hr, hg', hone', hsz, hk⟩ := run_store_list P g o e fz rest (i + 1) (cur.setIfInBounds (o + i) v) (w.setCell ⟨g, o + i, none⟩ v) hg1 (by simp; omega)
      (fun k hk1 hk2 => hf k (by omega) (by omega)) (fun u hu => h1 u (by simp [hu]))
    refine ⟨w', cur', ?_, hg', hone.trans hone', by simpa using hsz, fun k => ?_⟩
    · simp only [storeCells, Sem.run_bind, hst, Result.andThen_ok]
      exact hr
    · rw [hk]
      simp only [List.length_cons]
      by_cases hk0 : k = o + i
      · subst hk0
        rw [if_neg (by omega), if_pos ⟨Nat.le_refl _, by omega⟩]
        simp [hlt]
      · by_cases hin : o + (i + 1) ≤ k ∧ k < o + (i + 1) + rest.length
        · rw [if_pos hin, if_pos ⟨by omega, by omega⟩]
          rw [show k - (o + i) = (k - (o + (i + 1))) + 1 by omega]
          simp
        · rw [if_neg hin, if_neg (by omega)]
          rw [Array.getElem?_setIfInBounds_ne (by omega)]

/-- Cells are stored into a block that may be written. -/
theorem BlkRel.storeList {ρ : Ren} {i : Info} {w : World} {c : List Value} {e : TypeId} (hb : BlkRel P ρ i w (.cells c e false)) {off : Nat} {vs vs' : List Value} (hvs : VL ρ vs vs') (hl : off + vs.length ≤ c.length)
    (h1 : ∀ v ∈ vs, v.oneCell' = true) : ∃ w', (storeCells (i.at_.add off) vs').run P w = .ok () w' ∧ OneBlk w w' i.at_.block ∧ BlkRel P ρ i w' (.cells (splice c off vs) e false) := by
  obtain ⟨cur, fz, hh, hsp, hsz, hcl, hcell, hfz, hspare, hes⟩ := hb
  have hlen := hvs.1
  have h1' : ∀ v ∈ vs', v.oneCell' = true := fun v' hv' => by
    obtain ⟨j, hj⟩ := List.getElem?_of_mem hv'
    have hjl : j < vs.length := by rw [hlen]; exact (List.getElem?_eq_some_iff.1 hj).1
    have := hvs.2 j _ v' (List.getElem?_eq_getElem hjl) hj
    rw [this.oneCell]
    exact h1 _ (List.getElem_mem hjl)
  rw [add_none hsp.1]
  obtain ⟨w', cur', hr, hg', hone, hsz', hk⟩ := run_store_list P i.at_.block (i.at_.off + off) e fz vs' 0 cur w hh (by omega) (fun k hk1 hk2 => hfz k (by omega) (by omega)) h1'
  simp only [Nat.add_zero] at hk
  refine ⟨w', hr, hone, cur', fz, hg', hsp, by rw [hsz']; exact hsz, by rw [splice_length hl]; exact hcl, fun j v hj => ?_, fun o ho1 ho2 => hfz o ho1 (by rw [hsz'] at ho2; exact ho2), fun o v ho hov => ?_, hes⟩
  · rw [splice_get hl] at hj
    rw [hk]
    by_cases hin : off ≤ j ∧ j < off + vs.length
    · rw [if_pos hin] at hj
      rw [if_pos ⟨by omega, by omega⟩]
      rw [show i.at_.off + j - (i.at_.off + off) = j - off by omega]
      exact hvs.get hj
    · rw [if_neg hin] at hj
      rw [if_neg (by omega)]
      exact hcell j v hj
  · rw [splice_length hl] at ho
    rw [hk, if_neg (by omega)] at hov
    exact hspare o v ho hov

noncomputable def astore (P : Program) (t : TypeId) (a : Addr) (v : Value) (H : Heap) : Option Heap :=
  match P.info? t, H.get a.block with
  | some inf, some (.cells c e false) =>
    if v.cells.toList.length = inf.size ∧ a.off + v.cells.toList.length ≤ c.length ∧ v.cells.toList.all (·.oneCell') = true then some (H.set a.block (.cells (splice c a.off v.cells.toList) e false)) else none
  | _, _ => none

theorem run_astore {ρ : Ren} {w : World} (hs : Sim P ρ H w) {t : TypeId} {id off : Nat} {v v' : Value} {i : Info} {H' : Heap} (hi : ρ id = some i) (hv : V ρ v v') (hst : astore P t ⟨id, off, none⟩ v H = some H') :
    ∃ w', (storeVar t (i.at_.add off) v').run P w = .ok () w' ∧ St ρ H w ρ H' w' ∧ Sim P ρ H' w' := by
  unfold astore at hst
  cases hf : P.info? t with
  | none => simp [hf] at hst
  | some inf =>
    simp only [hf] at hst
    split at hst
    · rename_i inf' c e he hg
      cases he
      split at hst
      · rename_i hc
        obtain ⟨hc1, hc2, hc3⟩ := hc
        cases hst
        have hvl := hv.cells
        obtain ⟨w', hr, hone, hb⟩ := (hs.live id _ i hg hi).storeList hvl hc2 (fun u hu => List.all_eq_true.1 hc3 u hu)
        refine ⟨w', ?_, hs.setBlk hi hg rfl hone hb⟩
        have hsize : v'.cells.size = inf.size := by have := hvl.1; simp at this hc1; omega
        simp only [storeVar, Sem.run_bind, sizeOf, typeInfo, run_program, Result.andThen_ok, hf, Sem.run_pure, hsize, ne_eq, not_true_eq_false, if_false]
        exact hr
      · cases hst
    · cases hst

end
end Go.Ab
/- Operations that touch no memory. -/
set_option linter.unusedVariables false
namespace Go.Ab

theorem V.plain_eq {ρ : Ren} {v z : Value} (h : V ρ v z) (hp : plain v = true) : z = v := by
  cases h <;> first | rfl | (simp [plain] at hp)

section
variable {P : Program} {n : Nat} {A : Env} {H : Heap} {d : Option Nat} {ty : TypeId} {pos : String} {af : Array Edge} {g : Option (Nat × Bool)}

theorem evalP {ρ : Ren} {a : Act} {x : Operand} {v : Value} (h : V ρ (ev A x) (a.eval x)) (ex : ev A x = v) (hp : plain v = true) : a.eval x = v := by
  rw [ex] at h
  exact h.plain_eq hp

theorem od_move {x : Operand} : OpDoes P ⟨d, .move x, ty, pos, af, g⟩ A H (ev A x) H :=
  .pure_ fun ρ w a hs he => ⟨a.eval x, by simp only [execOp, Sem.run_pure], he x (by simp [Op.operands])⟩
theorem od_assign {x : Operand} : OpDoes P ⟨d, .assign x, ty, pos, af, g⟩ A H (ev A x) H :=
  .pure_ fun ρ w a hs he => ⟨a.eval x, by simp only [execOp, Sem.run_pure], he x (by simp [Op.operands])⟩
theorem od_pick {c x y : Operand} {t : Bool} (ec : ev A c = .bool t) :
    OpDoes P ⟨d, .pick c x y, ty, pos, af, g⟩ A H (if t then ev A x else ev A y) H :=
  .pure_ fun ρ w a hs he => by
    have e := evalP (he c (by simp [Op.operands])) ec rfl
    refine ⟨if t then a.eval x else a.eval y, ?_, ?_⟩
    · simp only [execOp, e, asBool, pure_bind, Sem.run_pure]
    · cases t
      · exact he y (by simp [Op.operands])
      · exact he x (by simp [Op.operands])

/-- What a check for nil lets by. -/
noncomputable def notNil : Value → Bool
  | .pointer none | .nilIface | .nilFunc => false
  | .func (.method _) _ _ => false
  | _ => true

theorem od_nilCheck {x : Operand} (hn : notNil (ev A x) = true) : OpDoes P ⟨d, .nilCheck x, ty, pos, af, g⟩ A H (ev A x) H :=
  .pure_ fun ρ w a hs he => by
    have hv := he x (by simp [Op.operands])
    refine ⟨a.eval x, ?_, hv⟩
    simp only [execOp]
    generalize ev A x = v at hv hn
    generalize a.eval x = z at hv
    cases hv with
    | same v hp => cases v <;> simp [plain, notNil] at hp hn <;> first | rfl | (rename_i p; cases p <;> simp_all)
    | func fn xs ys xs' ys' h1 h2 h3 h4 h5 => cases fn <;> simp [notNil] at hn <;> rfl
    | _ => rfl

/-! ### Integers -/

noncomputable def intBin (op : BinOp) (k : IntKind) (a b : Int) : Option Value :=
  match op with
  | .add => some (.int k (k.wrap (a + b)))
  | .sub => some (.int k (k.wrap (a - b)))
  | .mul => some (.int k (k.wrap (a * b)))
  | .quo => if b = 0 then none else some (.int k (k.wrap (a.tdiv b)))
  | .rem => if b = 0 then none else some (.int k (a.tmod b))
  | .and => some (.int k (k.wrap (BitVec.ofInt k.bits a &&& BitVec.ofInt k.bits b).toNat))
  | .or => some (.int k (k.wrap (BitVec.ofInt k.bits a ||| BitVec.ofInt k.bits b).toNat))
  | .xor => some (.int k (k.wrap (BitVec.ofInt k.bits a ^^^ BitVec.ofInt k.bits b).toNat))
  | .andNot => some (.int k (k.wrap (BitVec.ofInt k.bits a &&& ~~~BitVec.ofInt k.bits b).toNat))
  | .eql => some (.bool (a == b))
  | .neq => some (.bool (a != b))
  | .lss => some (.bool (decide (a < b)))
  | .leq => some (.bool (decide (a ≤ b)))
  | .gtr => some (.bool (decide (a > b)))
  | .geq => some (.bool (decide (a ≥ b)))
  | _ => none

theorem run_intBin {op : BinOp} {k : IntKind} {a b : Int} {v : Value} (t : TypeId) (w : World) (h : intBin op k a b = some v) : (binOp op t (.int k a) (.int k b)).run P w = .ok v w ∧ plain v = true := by
  cases op <;> simp only [intBin, reduceCtorEq] at h <;> simp only [binOp, ne_eq, not_true_eq_false, if_false] <;> first
    | (cases h; exact ⟨rfl, rfl⟩)
    | (split at h
       · cases h
       · cases h; rename_i hb; simp only [Op.intDiv, hb, if_false]; exact ⟨rfl, rfl⟩)

theorem run_eqGuard_int (op : BinOp) (t : TypeId) (x y : Operand) (k k' : IntKind) (a b : Int) (w : World) : (eqGuard op t x y (.int k a) (.int k' b)).run P w = .ok () w := by
  cases op <;> rfl

theorem od_int {op : BinOp} {t t' : TypeId} {x y : Operand} {k : IntKind} {a b : Int} {v : Value} (ex : ev A x = .int k a) (ey : ev A y = .int k b) (h : intBin op k a b = some v) :
    OpDoes P ⟨d, .binOp op t x y t', ty, pos, af, g⟩ A H v H :=
  .pure_ fun ρ w s hs he => by
    have e1 := evalP (he x (by simp [Op.operands])) ex rfl
    have e2 := evalP (he y (by simp [Op.operands])) ey rfl
    obtain ⟨h1, h2⟩ := run_intBin (P := P) t w h
    refine ⟨v, ?_, .same v h2⟩
    simp only [execOp, e1, e2, Sem.run_bind, run_eqGuard_int, Result.andThen_ok, h1, Sem.run_pure]

noncomputable def shiftBin (op : BinOp) (k : IntKind) (a b : Int) : Option Value :=
  if b < 0 then none else
  match op with
  | .shl => some (.int k (k.wrap (a * 2 ^ (min b.toNat k.bits))))
  | .shr => some (.int k (a.fdiv (2 ^ (min b.toNat k.bits))))
  | _ => none

theorem od_shift {op : BinOp} {t t' : TypeId} {x y : Operand} {k k' : IntKind} {a b : Int} {v : Value} (ex : ev A x = .int k a) (ey : ev A y = .int k' b) (h : shiftBin op k a b = some v) :
    OpDoes P ⟨d, .binOp op t x y t', ty, pos, af, g⟩ A H v H :=
  .pure_ fun ρ w s hs he => by
    have e1 := evalP (he x (by simp [Op.operands])) ex rfl
    have e2 := evalP (he y (by simp [Op.operands])) ey rfl
    have hr : (binOp op t (.int k a) (.int k' b)).run P w = .ok v w ∧ plain v = true := by
      unfold shiftBin at h
      split at h
      · cases h
      · rename_i hb
        cases op <;> simp only [reduceCtorEq] at h <;> (cases h; simp only [binOp, Op.shift, hb, if_false]; exact ⟨rfl, rfl⟩)
    refine ⟨v, ?_, .same v hr.2⟩
    simp only [execOp, e1, e2, Sem.run_bind, run_eqGuard_int, Result.andThen_ok, hr.1, Sem.run_pure]

/-- A string's bytes; a string of bytes. -/
noncomputable def bl (s : ByteArray) : List UInt8 := s.data.toList
noncomputable def mkS (l : List UInt8) : ByteArray := ⟨⟨l⟩⟩
@[simp] theorem bl_mkS (l : List UInt8) : bl (mkS l) = l := rfl
@[simp] theorem mkS_bl (s : ByteArray) : mkS (bl s) = s := rfl
theorem bl_size (s : ByteArray) : (bl s).length = s.size := rfl

noncomputable def strBin (op : BinOp) (x y : List UInt8) : Option Value :=
  match op with
  | .add => if x.length + y.length ≤ 9223372036854775807 then some (.string (mkS (x ++ y))) else none
  | .eql => some (.bool (x == y))
  | .neq => some (.bool !(x == y))
  | .lss => some (.bool (Op.bytesLess x y))
  | .leq => some (.bool (Op.bytesLess x y || x == y))
  | .gtr => some (.bool !(Op.bytesLess x y || x == y))
  | .geq => some (.bool !(Op.bytesLess x y))
  | _ => none

theorem bytes_append (x y : ByteArray) : x ++ y = mkS (bl x ++ bl y) := by
  apply ByteArray.ext
  rw [ByteArray.data_append]
  apply Array.ext'
  simp [mkS, bl]

theorem od_str {op : BinOp} {t t' : TypeId} {x y : Operand} {a b : ByteArray} {v : Value} (ex : ev A x = .string a) (ey : ev A y = .string b) (h : strBin op (bl a) (bl b) = some v) :
    OpDoes P ⟨d, .binOp op t x y t', ty, pos, af, g⟩ A H v H :=
  .pure_ fun ρ w s hs he => by
    have e1 := evalP (he x (by simp [Op.operands])) ex rfl
    have e2 := evalP (he y (by simp [Op.operands])) ey rfl
    have hgd : (eqGuard op t x y (.string a) (.string b)).run P w = .ok () w := by cases op <;> rfl
    have hr : (binOp op t (.string a) (.string b)).run P w = .ok v w ∧ plain v = true := by
      cases op <;> simp only [strBin, reduceCtorEq] at h <;> first
        | (cases h; simp only [binOp, Op.stringOp, ByteArray.toList_eq]; exact ⟨rfl, rfl⟩)
        | (split at h
           · cases h
             rename_i hb
             refine ⟨?_, rfl⟩
             simp only [bl_size] at hb
             simp only [binOp, Op.stringOp]
             rw [if_neg (by simp; omega), bytes_append]
             rfl
           · cases h)
    refine ⟨v, ?_, .same v hr.2⟩
    simp only [execOp, e1, e2, Sem.run_bind, hgd, Result.andThen_ok, hr.1, Sem.run_pure]

noncomputable def unBin (op : UnOp) : Value → Option Value
  | .int k m => match op with
    | .neg => some (.int k (k.wrap (0 - m)))
    | .xor => some (.int k (k.wrap (BitVec.ofInt k.bits (if k.signed then -1 else k.max) ^^^ BitVec.ofInt k.bits m).toNat))
    | _ => none
  | .bool b => match op with
    | .not => some (.bool !b)
    | _ => none
  | _ => none

theorem od_un {op : UnOp} {t : TypeId} {x : Operand} {v : Value} (h : unBin op (ev A x) = some v) : OpDoes P ⟨d, .unOp op t x, ty, pos, af, g⟩ A H v H :=
  .pure_ fun ρ w s hs he => by
    have hv := he x (by simp [Op.operands])
    have hr : (Op.unary op (s.eval x)).run P w = .ok v w ∧ plain v = true := by
      generalize ev A x = u at hv h
      cases u with
      | int k m =>
        rw [hv.plain_eq rfl]
        cases op <;> simp only [unBin, reduceCtorEq] at h <;> (cases h; exact ⟨rfl, rfl⟩)
      | bool b =>
        rw [hv.plain_eq rfl]
        cases op <;> simp only [unBin, reduceCtorEq] at h <;> (cases h; exact ⟨rfl, rfl⟩)
      | _ => simp [unBin] at h
    refine ⟨v, ?_, .same v hr.2⟩
    simp only [execOp, Sem.run_bind, hr.1, Result.andThen_ok, Sem.run_pure]

/-! ### Conversions without memory -/

noncomputable def convBin (P : Program) (src dst : TypeId) (x : Value) : Option Value :=
  match P.underlying src, P.underlying dst with
  | some _, some (.int k) => match x with | .int _ m => some (.int k (k.wrap m)) | _ => none
  | some (.string), some (.string) => match x with | .string s => some (.string s) | _ => none
  | some (.int _), some (.string) => match x with | .int _ m => some (.string (Utf8.encode m)) | _ => none
  | _, _ => none

theorem od_conv {src dst : TypeId} {x : Operand} {v : Value} (h : convBin P src dst (ev A x) = some v) : OpDoes P ⟨d, .convert src dst x, ty, pos, af, g⟩ A H v H :=
  .pure_ fun ρ w s hs he => by
    have hv := he x (by simp [Op.operands])
    have hr : (convert src dst (s.eval x)).run P w = .ok v w ∧ plain v = true := by
      generalize ev A x = u at hv h
      unfold convBin at h
      split at h
      · rename_i _ _ k h1 h2
        split at h
        · cases h
          rw [hv.plain_eq rfl]
          refine ⟨?_, rfl⟩
          simp only [convert, Sem.run_bind, run_underlying h1, run_underlying h2, Result.andThen_ok]
          rfl
        · cases h
      · rename_i _ _ h1 h2
        split at h
        · cases h
          rw [hv.plain_eq rfl]
          refine ⟨?_, rfl⟩
          simp only [convert, Sem.run_bind, run_underlying h1, run_underlying h2, Result.andThen_ok]
          rfl
        · cases h
      · rename_i _ _ k h1 h2
        split at h
        · cases h
          rw [hv.plain_eq rfl]
          refine ⟨?_, rfl⟩
          simp only [convert, Sem.run_bind, run_underlying h1, run_underlying h2, Result.andThen_ok]
          rfl
        · cases h
      · cases h
    refine ⟨v, ?_, .same v hr.2⟩
    simp only [execOp, Sem.run_bind, hr.1, Result.andThen_ok, Sem.run_pure]

/-! ### Interfaces, functions, parts -/

theorem od_makeInterface {t : TypeId} {x : Operand} {td : TypeDesc} (ht : P.underlying t = some td) (hi : (match td with | .interface _ => false | _ => true) = true) :
    OpDoes P ⟨d, .makeInterface t x, ty, pos, af, g⟩ A H (.iface t (ev A x)) H :=
  .pure_ fun ρ w s hs he => by
    refine ⟨.iface t (s.eval x), ?_, .iface _ _ _ (he x (by simp [Op.operands]))⟩
    simp only [execOp, Instr.makeInterface, Sem.run_bind, run_underlying ht, Result.andThen_ok]
    cases td <;> first | rfl | simp at hi

theorem evals {ρ : Ren} {a : Act} {xs : Array Operand} (h : ∀ x ∈ xs, V ρ (ev A x) (a.eval x)) : VL ρ (xs.map (ev A)).toList (xs.map a.eval).toList := by
  refine ⟨by simp, fun j x x' h1 h2 => ?_⟩
  simp only [Array.getElem?_toList, Array.getElem?_map, Option.map_eq_some_iff] at h1 h2
  obtain ⟨o, ho, rfl⟩ := h1
  obtain ⟨o', ho', rfl⟩ := h2
  rw [ho] at ho'; cases ho'
  exact h o (Array.mem_of_getElem? ho)

theorem od_makeFunc {fn : Fn} {first captured : Array Operand} (hn : noYield fn = true) :
    OpDoes P ⟨d, .makeFunc fn first captured, ty, pos, af, g⟩ A H (.func fn (first.map (ev A)) (captured.map (ev A))) H :=
  .pure_ fun ρ w s hs he => by
    have h1 := evals (xs := first) (fun x hx => he x (by simp [Op.operands, hx]))
    have h2 := evals (xs := captured) (fun x hx => he x (by simp [Op.operands, hx]))
    refine ⟨.func fn (first.map s.eval) (captured.map s.eval), rfl, .func _ _ _ _ _ hn (by simp) (by simp) (fun j x x' a b => h1.2 j x x' (by simpa using a) (by simpa using b)) (fun j x x' a b => h2.2 j x x' (by simpa using a) (by simpa using b))⟩

/-- A part of a struct or an array, given by its cells. -/
noncomputable def apart (P : Program) (t : TypeId) (cs : Array Value) (off : Nat) : Option Value :=
  match P.underlying t, P.info? t with
  | some td, some inf => if isAggD td then some (.agg (cs.extract off (off + inf.size))) else cs[off]?
  | _, _ => none

theorem run_isAgg {t : TypeId} {td : TypeDesc} (hu : P.underlying t = some td) (w : World) : (isAgg t).run P w = .ok (isAggD td) w := by
  simp only [isAgg, Sem.run_bind, run_underlying hu, Result.andThen_ok]
  cases td <;> rfl

theorem run_sizeOf {t : TypeId} {inf : TypeInfo} (hi : P.info? t = some inf) (w : World) : (sizeOf t).run P w = .ok inf.size w := by
  simp only [sizeOf, typeInfo, Sem.run_bind, run_program, Result.andThen_ok, hi, Sem.run_pure]

theorem run_part {ρ : Ren} {t : TypeId} {cs cs' : Array Value} {off : Nat} {v : Value} (hc : VL ρ cs.toList cs'.toList) (h : apart P t cs off = some v) (w : World) : ∃ v', (part t cs' off).run P w = .ok v' w ∧ V ρ v v' := by
  unfold apart at h
  split at h
  · rename_i td inf hu hi
    split at h
    · rename_i hd
      cases h
      refine ⟨.agg (cs'.extract off (off + inf.size)), ?_, ?_⟩
      · simp only [part, Sem.run_bind, run_isAgg hu, Result.andThen_ok, hd, if_true, run_sizeOf hi, Sem.run_pure]
      · have hsz : cs.size = cs'.size := by have := hc.1; simpa using this
        refine .agg _ _ (by simp [hsz]) (fun j x x' a b => ?_)
        rw [Array.getElem?_extract] at a b
        split at a
        · rename_i hh
          rw [if_pos (by rw [← hsz]; exact hh)] at b
          exact hc.2 (off + j) x x' (by simpa using a) (by simpa using b)
        · cases a
    · rename_i hd
      have h' : cs.toList[off]? = some v := by simpa using h
      obtain ⟨v', h1, h2⟩ := hc.get h'
      refine ⟨v', ?_, h2⟩
      have h1' : cs'[off]? = some v' := by simpa using h1
      simp only [part, Sem.run_bind, run_isAgg hu, Result.andThen_ok, hd, Bool.false_eq_true, if_false, h1', Sem.run_pure]
  · cases h

theorem V.agg_inv {ρ : Ren} {cs : Array Value} {z : Value} (h : V ρ (.agg cs) z) : ∃ cs', z = .agg cs' ∧ VL ρ cs.toList cs'.toList := by
  cases h with
  | same _ hp => simp [plain] at hp
  | agg xs xs' h1 h2 => exact ⟨xs', rfl, by simpa using h1, fun j x x' a b => h2 j x x' (by simpa using a) (by simpa using b)⟩

theorem V.tuple_inv {ρ : Ren} {cs : Array Value} {z : Value} (h : V ρ (.tuple cs) z) : ∃ cs', z = .tuple cs' ∧ VL ρ cs.toList cs'.toList := by
  cases h with
  | same _ hp => simp [plain] at hp
  | tuple xs xs' h1 h2 => exact ⟨xs', rfl, by simpa using h1, fun j x x' a b => h2 j x x' (by simpa using a) (by simpa using b)⟩

theorem V.ptr_inv {ρ : Ren} {a : Addr} {z : Value} (h : V ρ (.pointer (some a)) z) : ∃ i, ρ a.block = some i ∧ a.spot = none ∧ z = .pointer (some (i.at_.add a.off)) := by
  cases h with
  | same _ hp => simp [plain] at hp
  | ptr id off i h => exact ⟨i, h, rfl, rfl⟩

theorem V.iface_inv {ρ : Ren} {t : TypeId} {v z : Value} (h : V ρ (.iface t v) z) : ∃ v', z = .iface t v' ∧ V ρ v v' := by
  cases h with
  | same _ hp => simp [plain] at hp
  | iface t v v' h => exact ⟨v', rfl, h⟩

theorem V.map_inv {ρ : Ren} {id : Nat} {z : Value} (h : V ρ (.map (some id)) z) : ∃ i, ρ id = some i ∧ z = .map (some i.at_.block) := by
  cases h with
  | same _ hp => simp [plain] at hp
  | map id i h => exact ⟨i, h, rfl⟩

theorem V.slice_inv {ρ : Ren} {a : Addr} {len cap : Nat} {z : Value} (h : V ρ (.slice (some a) len cap) z) : ∃ i a' cap', ρ a.block = some i ∧ a.spot = none ∧ z = .slice (some a') len cap' ∧
    (a' = i.at_.add a.off ∨ (len = 0 ∧ cap' = 0)) ∧ len ≤ cap' ∧ cap' < UNK ∧ (UNK ≤ cap → i.s = cap - UNK ∧ a.off + cap' * i.s = i.n) ∧ (cap < UNK → cap' = cap) := by
  cases h with
  | same _ hp => simp [plain] at hp
  | slice id off len cap cap' i a' h h1 h2 h0 h3 h4 => exact ⟨i, a', cap', h, rfl, rfl, h1, h2, h0, h3, h4⟩

theorem od_field {t : TypeId} {x : Operand} {f : Nat} {fs : Array Field} {fd : Field} {cs : Array Value} {v : Value} (ht : P.underlying t = some (.struct fs)) (hf : fs[f]? = some fd) (ex : ev A x = .agg cs)
    (hp : apart P fd.type cs fd.offset = some v) : OpDoes P ⟨d, .field t x f, ty, pos, af, g⟩ A H v H :=
  .pure_ fun ρ w s hs he => by
    have hv := he x (by simp [Op.operands])
    rw [ex] at hv
    obtain ⟨cs', e, hc⟩ := hv.agg_inv
    obtain ⟨v', h1, h2⟩ := run_part hc hp w
    refine ⟨v', ?_, h2⟩
    simp only [execOp, Instr.field, Sem.run_bind, run_underlying ht, Result.andThen_ok, hf, e, asAgg, Sem.run_pure, h1]

theorem od_fieldAddr {t : TypeId} {x : Operand} {f : Nat} {fs : Array Field} {fd : Field} {inf : TypeInfo} {a : Addr} (ht : P.underlying t = some (.struct fs)) (hf : fs[f]? = some fd) (hi : P.info? fd.type = some inf) (hz : Nat.beq inf.size 0 = false)
    (ex : ev A x = .pointer (some a)) : OpDoes P ⟨d, .fieldAddr t x f, ty, pos, af, g⟩ A H (.pointer (some ⟨a.block, a.off + fd.offset, none⟩)) H :=
  .pure_ fun ρ w s hs he => by
    have hv := he x (by simp [Op.operands])
    rw [ex] at hv
    obtain ⟨i, h1, h2, h3⟩ := hv.ptr_inv
    refine ⟨.pointer (some (i.at_.add (a.off + fd.offset))), ?_, .ptr _ _ i h1⟩
    have hz' : ¬ inf.size = 0 := by simpa [nbeq] using hz
    simp only [execOp, Instr.fieldAt, Sem.run_bind, run_underlying ht, Result.andThen_ok, hf, h3, Instr.sureAddr, Sem.run_pure, fieldPlace, run_sizeOf hi, hz', if_false, add_add]

theorem od_indexAddr_slice {t e : TypeId} {x ix : Operand} {inf : TypeInfo} {a : Addr} {len cap : Nat} {k : IntKind} {m : Int} (ht : P.underlying t = some (.slice e)) (hi : P.info? e = some inf)
    (ex : ev A x = .slice (some a) len cap) (eix : ev A ix = .int k m) (h0 : 0 ≤ m) (h1 : m < len) :
    OpDoes P ⟨d, .indexAddr t x ix, ty, pos, af, g⟩ A H (.pointer (some ⟨a.block, a.off + m.toNat * inf.size, none⟩)) H :=
  .pure_ fun ρ w s hs he => by
    have hv := he x (by simp [Op.operands])
    rw [ex] at hv
    have e2 := evalP (he ix (by simp [Op.operands])) eix rfl
    obtain ⟨i, a', cap', g1, g2, g3, g4, g5, g0, g6, g7⟩ := hv.slice_inv
    have ha : a' = i.at_.add a.off := by rcases g4 with h | ⟨h, _⟩; exact h; omega
    refine ⟨.pointer (some (i.at_.add (a.off + m.toNat * inf.size))), ?_, .ptr _ _ i g1⟩
    simp only [execOp, Instr.indexAt, e2, asIntOf, g3, Sem.run_bind, Sem.run_pure, run_underlying ht, Result.andThen_ok, h0, h1, and_self, if_true, run_sizeOf hi, ha, add_add]

theorem od_indexAddr_array {t e : TypeId} {x ix : Operand} {inf : TypeInfo} {a : Addr} {len : Nat} {k : IntKind} {m : Int} (ht : P.underlying t = some (.array len e)) (hi : P.info? e = some inf)
    (ex : ev A x = .pointer (some a)) (eix : ev A ix = .int k m) (h0 : 0 ≤ m) (h1 : m < len) :
    OpDoes P ⟨d, .indexAddr t x ix, ty, pos, af, g⟩ A H (.pointer (some ⟨a.block, a.off + m.toNat * inf.size, none⟩)) H :=
  .pure_ fun ρ w s hs he => by
    have hv := he x (by simp [Op.operands])
    rw [ex] at hv
    have e2 := evalP (he ix (by simp [Op.operands])) eix rfl
    obtain ⟨i, g1, g2, g3⟩ := hv.ptr_inv
    refine ⟨.pointer (some (i.at_.add (a.off + m.toNat * inf.size))), ?_, .ptr _ _ i g1⟩
    simp only [execOp, Instr.indexAt, e2, asIntOf, g3, Instr.sureAddr, Sem.run_bind, Sem.run_pure, run_underlying ht, Result.andThen_ok, h0, h1, and_self, if_true, run_sizeOf hi, add_add]

theorem od_index_string {t : TypeId} {x ix : Operand} {s : ByteArray} {k : IntKind} {m : Int} {b : UInt8} (ht : P.underlying t = some .string) (ex : ev A x = .string s) (eix : ev A ix = .int k m) (h0 : 0 ≤ m) (hb' : (bl s)[m.toNat]? = some b) :
    OpDoes P ⟨d, .index t x ix, ty, pos, af, g⟩ A H (.int .u8 b.toNat) H :=
  .pure_ fun ρ w a hs he => by
    have e1 := evalP (he x (by simp [Op.operands])) ex rfl
    have e2 := evalP (he ix (by simp [Op.operands])) eix rfl
    refine ⟨.int .u8 b.toNat, ?_, .same _ rfl⟩
    have hb : s[m.toNat]? = some b := by
      have hlt : m.toNat < s.size := by rw [← bl_size]; exact (List.getElem?_eq_some_iff.1 hb').1
      rw [getElem?_pos s _ hlt]
      rw [List.getElem?_eq_getElem (by rw [bl_size]; exact hlt)] at hb'
      exact hb'
    simp only [execOp, Instr.index, e1, e2, asIntOf, Sem.run_bind, Sem.run_pure, run_underlying ht, Result.andThen_ok, h0, if_true, hb]

theorem od_index_array {t e : TypeId} {x ix : Operand} {len : Nat} {inf : TypeInfo} {cs : Array Value} {k : IntKind} {m : Int} {v : Value} (ht : P.underlying t = some (.array len e)) (hi : P.info? e = some inf) (ex : ev A x = .agg cs) (eix : ev A ix = .int k m)
    (h0 : 0 ≤ m) (h1 : m < len) (hp : apart P e cs (m.toNat * inf.size) = some v) : OpDoes P ⟨d, .index t x ix, ty, pos, af, g⟩ A H v H :=
  .pure_ fun ρ w a hs he => by
    have hv := he x (by simp [Op.operands])
    rw [ex] at hv
    have e2 := evalP (he ix (by simp [Op.operands])) eix rfl
    obtain ⟨cs', e', hc⟩ := hv.agg_inv
    obtain ⟨v', g1, g2⟩ := run_part hc hp w
    refine ⟨v', ?_, g2⟩
    simp only [execOp, Instr.index, e', e2, asIntOf, Sem.run_bind, Sem.run_pure, run_underlying ht, Result.andThen_ok, h0, h1, and_self, if_true, run_sizeOf hi, g1]

theorem od_extract {x : Operand} {ix : Nat} {vs : Array Value} {v : Value} (ex : ev A x = .tuple vs) (hv : vs[ix]? = some v) : OpDoes P ⟨d, .extract x ix, ty, pos, af, g⟩ A H v H :=
  .pure_ fun ρ w a hs he => by
    have hv' := he x (by simp [Op.operands])
    rw [ex] at hv'
    obtain ⟨vs', e', hc⟩ := hv'.tuple_inv
    obtain ⟨v', g1, g2⟩ := hc.get (j := ix) (x := v) (by simpa using hv)
    have g1' : vs'[ix]? = some v' := by simpa using g1
    refine ⟨v', ?_, g2⟩
    simp only [execOp, Instr.extract, e', g1', Sem.run_bind, Sem.run_pure, Result.andThen_ok]

end
end Go.Ab
