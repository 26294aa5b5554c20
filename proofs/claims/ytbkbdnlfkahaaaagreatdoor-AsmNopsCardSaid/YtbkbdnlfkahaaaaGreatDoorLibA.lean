/- Forms in memory, and the kit's parts that look at them. -/
import Derived.Test.YtbkbdnlfkahaaaaGreatDoorC0Code
import Derived.Test.YtbkbdnlfkahaaaaGreatDoorAbH
import Derived.Laws.BitsLemmas
import Derived.Test.YtbkbdnlfkahaaaaGreatDoorAbF
set_option linter.unusedVariables false
set_option linter.unusedSimpArgs false
set_option maxRecDepth 100000
namespace Go.Proofs.YtbkbdnlfkahaaaaGreatDoor.code
open Go.Ab

def I64 (n : Int) : Prop := -9223372036854775808 ≤ n ∧ n ≤ 9223372036854775807
theorem w64 {n : Int} (h : I64 n) : IntKind.i64.wrap n = n := by
  rw [IntKind.wrap_i64]; unfold I64 at h; omega
def ints (l : List Int) : List Value := l.map (.int .i64 ·)
theorem ints_get {l : List Int} {i : Nat} (h : i < l.length) : (ints l)[i]? = some (.int .i64 (l.getD i 0)) := by
  simp [ints, List.getElem?_eq_getElem h, List.getD]
theorem ints_length (l : List Int) : (ints l).length = l.length := by simp [ints]
def IsSl (H : Heap) (v : Value) (n : Nat) (cs : List Value) : Prop := ∃ a cap, v = .slice a n cap ∧ (0 < n → ∃ b e ro, a = some ⟨b, 0, none⟩ ∧ H.get b = some (.cells cs e ro))
theorem IsSl.ext {H H' : Heap} {v : Value} {n : Nat} {cs : List Value} (hw : H.Wf) (he : Ext H H') (h : IsSl H v n cs) : IsSl H' v n cs := by
  obtain ⟨a, cap, rfl, h1⟩ := h
  refine ⟨a, cap, rfl, fun hn => ?_⟩
  obtain ⟨b, e, ro, rfl, hb⟩ := h1 hn
  exact ⟨b, e, ro, rfl, by rw [he.get b (hw.lt hb)]; exact hb⟩

theorem isSl_len {H : Heap} {v : Value} {n : Nat} {cs : List Value} (h : IsSl H v n cs) : ∃ a cap, v = .slice a n cap := by
  obtain ⟨a, cap, rfl, _⟩ := h; exact ⟨a, cap, rfl⟩

end Go.Proofs.YtbkbdnlfkahaaaaGreatDoor.code
/- Forms in memory: SameForm, SameForms, FormsOf. -/
set_option linter.unusedVariables false
set_option linter.unusedSimpArgs false
set_option maxRecDepth 100000
namespace Go.Proofs.YtbkbdnlfkahaaaaGreatDoor.code
open Go.Ab

structure Fm where
  op : Int
  pre : Int
  map : Int
  code : Int
  digit : Int
  w : Int
  l : Int
  vex : Bool
  shapes : List Int
  slots : List Int
  deriving DecidableEq

structure Lf where
  f : Fm
  sv : Value
  tv : Value
def Lf.cells (x : Lf) : List Value := [.int .i64 x.f.op, x.sv, x.tv, .int .i64 x.f.pre, .int .i64 x.f.map, .int .i64 x.f.code, .int .i64 x.f.digit, .int .i64 x.f.w, .bool x.f.vex, .int .i64 x.f.l]
def Lf.At (H : Heap) (x : Lf) : Prop := x.f.shapes.length ≤ 1000 ∧ x.f.slots.length ≤ 1000 ∧ IsSl H x.sv x.f.shapes.length (ints x.f.shapes) ∧ IsSl H x.tv x.f.slots.length (ints x.f.slots)
theorem Lf.At.ext {H H' : Heap} {x : Lf} (hw : H.Wf) (he : Ext H H') (h : x.At H) : x.At H' := ⟨h.1, h.2.1, h.2.2.1.ext hw he, h.2.2.2.ext hw he⟩
def cellsL (xs : List Lf) : List Value := xs.flatMap Lf.cells
theorem lcells_length (x : Lf) : x.cells.length = 10 := rfl
theorem cellsL_length : ∀ xs : List Lf, (cellsL xs).length = xs.length * 10
  | [] => rfl
  | x :: xs => by
    have := cellsL_length xs
    simp only [cellsL, List.flatMap_cons, List.length_append, lcells_length, List.length_cons] at this ⊢
    omega
theorem cellsL_at : ∀ (l : List Lf) (i : Nat) (p : Lf), l[i]? = some p → ((cellsL l).drop (i * 10)).take 10 = p.cells
  | [], i, p, h => by simp at h
  | q :: l, 0, p, h => by
    simp at h; subst h
    have : (cellsL (q :: l)) = q.cells ++ cellsL l := by simp [cellsL]
    rw [this, Nat.zero_mul, List.drop_zero, List.take_append_of_le_length (by rw [lcells_length]; exact Nat.le_refl 10), List.take_of_length_le (by rw [lcells_length]; exact Nat.le_refl 10)]
  | q :: l, i + 1, p, h => by
    have e : (cellsL (q :: l)) = q.cells ++ cellsL l := by simp [cellsL]
    rw [e, show (i + 1) * 10 = q.cells.length + i * 10 by rw [lcells_length]; omega, List.drop_append, List.drop_of_length_le (by omega), List.nil_append, Nat.add_sub_cancel_left]
    exact cellsL_at l i p (by simpa using h)
theorem cellsL_cell (l : List Lf) (i j : Nat) (p : Lf) (h : l[i]? = some p) (hj : j < 10) : (cellsL l)[i * 10 + j]? = p.cells[j]? := by
  rw [← cellsL_at l i p h, List.getElem?_take, if_pos hj, List.getElem?_drop]
theorem lg0 (p : Lf) : p.cells[0]? = some (.int .i64 p.f.op) := Eq.trans rfl rfl
theorem lcells_take (p : Lf) : List.take 10 p.cells = p.cells := Eq.trans rfl rfl
theorem cellsL_snoc (xs : List Lf) (x : Lf) : cellsL (xs ++ [x]) = cellsL xs ++ x.cells := by simp [cellsL]

def FmsAt (H : Heap) (v : Value) (xs : List Lf) : Prop := IsSl H v xs.length (cellsL xs) ∧ ∀ x ∈ xs, x.At H
theorem FmsAt.ext {H H' : Heap} {v : Value} {xs : List Lf} (hw : H.Wf) (he : Ext H H') (h : FmsAt H v xs) : FmsAt H' v xs := ⟨h.1.ext hw he, fun x hx => (h.2 x hx).ext hw he⟩

theorem isSl_one {H : Heap} {v : Value} {n : Nat} {cs : List Value} (h : IsSl H v n cs) : v.oneCell' = true := by
  obtain ⟨a, cap, rfl, _⟩ := h; rfl
theorem lcells_all {H : Heap} {x : Lf} (h : x.At H) : (x.cells.all fun v => v.oneCell') = true := by
  simp only [Lf.cells, List.all_cons, List.all_nil, isSl_one h.2.2.1, isSl_one h.2.2.2, Bool.and_true]
  rfl

end Go.Proofs.YtbkbdnlfkahaaaaGreatDoor.code
/- Where a slot stands in a form; what opcode a form has of one. -/
set_option linter.unusedVariables false
set_option linter.unusedSimpArgs false
set_option maxRecDepth 100000
namespace Go.Proofs.YtbkbdnlfkahaaaaGreatDoor.code
open Go.Ab

def idxGo : List Int → Int → Nat → Int
  | [], _, _ => -1
  | y :: l, x, k => if x = y then (k : Int) else idxGo l x (k + 1)
def idxI (l : List Int) (x : Int) : Int := idxGo l x 0
theorem idxGo_at (x : Int) : ∀ (l : List Int) (k i : Nat), (∀ j, j < i → ¬ x = l.getD j 0) → i < l.length → x = l.getD i 0 → idxGo l x k = ((k + i : Nat) : Int)
  | [], k, i, _, hl, _ => by simp at hl
  | y :: l, k, 0, _, _, h => by
    have h : x = y := by simpa using h
    simp [idxGo, h]
  | y :: l, k, i + 1, hn, hl, h => by
    have h0 : ¬ x = y := by have := hn 0 (by omega); simpa using this
    rw [idxGo, if_neg h0, idxGo_at x l (k + 1) i (fun j hj => by have := hn (j + 1) (by omega); simpa using this) (by simpa using hl) (by simpa using h)]
    congr 1; omega
theorem idxGo_no (x : Int) : ∀ (l : List Int) (k : Nat), (∀ j, j < l.length → ¬ x = l.getD j 0) → idxGo l x k = -1
  | [], k, _ => rfl
  | y :: l, k, hn => by
    have h0 : ¬ x = y := by have := hn 0 (by simp); simpa using this
    rw [idxGo, if_neg h0]
    exact idxGo_no x l (k + 1) (fun j hj => by have := hn (j + 1) (by simpa using hj); simpa using this)

theorem q_slices_Index (va : Value) (xs : List Int) (x : Int) (H : Heap) (ha : IsSl H va xs.length (ints xs)) (hl : xs.length ≤ 1000) : CallQ prog f_slices_Index_int_int [va, .int .i64 x] H fun u H' => u = .int .i64 (idxI xs x) ∧ H' = H := by
  refine in_slices_Index_int_int fun hw => ?_
  obtain ⟨aa, acap, rfl, hsa⟩ := ha
  simp only [pc_slices_Index_int_int, sxA, sxB, Nat.reduceBEq, Nat.reduceEqDiff, reduceCtorEq, mxA, mxB, Nat.reduceAdd, reduceIte, Nat.reduceLeDiff, splice]
  refine loop_intro (fun m A' H' => ∃ i : Nat, i ≤ xs.length ∧ m = xs.length - i ∧ H' = H ∧ (∀ j, j < i → ¬ x = xs.getD j 0) ∧ A' 0 = .slice aa xs.length acap ∧ A' 1 = .int .i64 x ∧ A' 7 = .int .i64 (xs.length : Int) ∧ A' 8 = .int .i64 i) xs.length ?_ ?_
  · refine ⟨0, Nat.zero_le _, by omega, rfl, fun j h => by omega, ?_, ?_, ?_, ?_⟩
    all_goals simp only [uxA, uxB, Nat.reduceBEq]
    rfl
  · rintro m A' H' ⟨i, hi, rfl, hEq, hall, r0, r1, r7, r8⟩
    subst hEq
    simp only [sxA, sxB, Nat.reduceBEq, Nat.reduceEqDiff, reduceCtorEq, mxA, mxB, Nat.reduceAdd, reduceIte, Nat.reduceLeDiff, splice, r7, r8]
    refine cB_cases (fun h2 => ?_) (fun h2 => ?_)
    · have h2 : i < xs.length := by have := of_decide_eq_true h2; omega
      obtain ⟨b1, e1, ro1, rfl, hb1⟩ := hsa (by omega)
      have c1 : (0 : Int) ≤ i ∧ (i : Int) < xs.length := by omega
      have c3 : (i : Int).toNat = i := by omega
      have ei : IntKind.i64.wrap ((i : Int) + 1) = ((i + 1 : Nat) : Int) := by rw [w64 (by unfold I64; omega)]; omega
      have g1 := ints_get (l := xs) (i := i) (by omega)
      simp only [sxA, sxB, Nat.reduceBEq, Nat.reduceEqDiff, reduceCtorEq, mxA, mxB, Nat.reduceAdd, reduceIte, Nat.reduceLeDiff, splice, r0, r1, r8, c1, c3, hb1, g1]
      refine cB_cases (fun h3 => ?_) (fun h3 => ?_)
      · have h3 : x = xs.getD i 0 := by simpa using h3
        simp only [sxA, sxB, Nat.reduceBEq, Nat.reduceEqDiff, reduceCtorEq, mxA, mxB, Nat.reduceAdd, reduceIte, Nat.reduceLeDiff, splice, r8, ret_slices_Index_int_int]
        exact .mk (Nat.le_refl _) ⟨by rw [idxI, idxGo_at x xs 0 i hall h2 h3, Nat.zero_add], rfl⟩
      · have h3 : ¬ x = xs.getD i 0 := by simpa using h3
        simp only [sxA, sxB, Nat.reduceBEq, Nat.reduceEqDiff, reduceCtorEq, mxA, mxB, Nat.reduceAdd, reduceIte, Nat.reduceLeDiff, splice, r8, ei]
        refine ⟨xs.length - (i + 1), by omega, i + 1, by omega, rfl, rfl, fun j hj => ?_, ?_, ?_, ?_, ?_⟩
        · rcases Nat.lt_or_ge j i with h | h
          · exact hall j h
          · rw [show j = i by omega]; exact h3
        all_goals simp only [uxA, uxB, Nat.reduceBEq, r0, r1, r7]
    · have h2 : i = xs.length := by have := of_decide_eq_false h2; omega
      subst h2
      simp only [sxA, sxB, Nat.reduceBEq, Nat.reduceEqDiff, reduceCtorEq, mxA, mxB, Nat.reduceAdd, reduceIte, Nat.reduceLeDiff, splice, ret_slices_Index_int_int]
      exact .mk (Nat.le_refl _) ⟨by rw [idxI, idxGo_no x xs 0 hall], rfl⟩

theorem q_shape_Slot (x : Lf) (k : Int) (H : Heap) (hx : x.At H) : CallQ prog f_shape_Slot [.agg x.cells.toArray, .int .i64 k] H fun u H' => u = .int .i64 (idxI x.f.slots k) ∧ ∃ m, H' = H.up m := by
  refine in_shape_Slot fun hw => ?_
  obtain ⟨l1, l2, h1, h2⟩ := hx
  obtain ⟨a2, c2, e2, _⟩ := id h2
  simp only [Lf.cells, pc_shape_Slot, e2, sxA, sxB, Nat.reduceBEq, Nat.reduceEqDiff, reduceCtorEq, mxA, mxB, Nat.reduceAdd, reduceIte, Nat.reduceLeDiff, splice]
  rw [← e2]
  refine (q_slices_Index _ x.f.slots k _ (h2.ext hw ((Ext.refl H).push _)) l2).mono ?_
  rintro _ _ ⟨rfl, rfl⟩
  simp only [sxA, sxB, Nat.reduceBEq, Nat.reduceEqDiff, reduceCtorEq, mxA, mxB, Nat.reduceAdd, reduceIte, Nat.reduceLeDiff, splice, ret_shape_Slot]
  exact .ext hw ((Ext.refl H).push _) ⟨rfl, _, rfl⟩

end Go.Proofs.YtbkbdnlfkahaaaaGreatDoor.code
/- table.collect: the forms of the lists that hold. -/
set_option linter.unusedVariables false
set_option linter.unusedSimpArgs false
set_option maxRecDepth 100000
namespace Go.Proofs.YtbkbdnlfkahaaaaGreatDoor.code
open Go.Ab

theorem ints_ne {H : Heap} {l : List Int} {y : Lf} {ys : List Lf} (hy : y.At H) (h : ints l = cellsL (y :: ys)) : False := by
  have h1 : (ints l)[1]? = some y.sv := by rw [h]; simp [cellsL, Lf.cells]
  obtain ⟨a, c, e, _⟩ := hy.2.2.1
  rw [e] at h1
  unfold ints at h1
  rw [List.getElem?_map] at h1
  cases hl : l[1]? with
  | none => rw [hl] at h1; cases h1
  | some z => rw [hl] at h1; cases h1
def Acc (H0 H : Heap) (v : Value) (ys : List Lf) : Prop := (v = .slice none 0 0 ∧ ys = []) ∨ (∃ b, v = .slice (some ⟨b, 0, none⟩) ys.length (UNK + 10) ∧ H0.next ≤ b ∧ H.get b = some (.cells (cellsL ys) T_api_Form false) ∧ ys ≠ [] ∧ ∀ y ∈ ys, y.At H)
theorem Acc.ext {H0 H H' : Heap} {v : Value} {ys : List Lf} (hw : H.Wf) (hx : Ext H H') (h : Acc H0 H v ys) : Acc H0 H' v ys := by
  rcases h with h | ⟨b, h1, h2, h3, h4, h5⟩
  · exact .inl h
  · exact .inr ⟨b, h1, h2, by rw [hx.get _ (hw.lt h3)]; exact h3, h4, fun y hy => (h5 y hy).ext hw hx⟩
theorem Acc.fms {H0 H : Heap} {v : Value} {ys : List Lf} (h : Acc H0 H v ys) : FmsAt H v ys := by
  rcases h with ⟨rfl, rfl⟩ | ⟨b, rfl, h2, h3, h4, h5⟩
  · exact ⟨⟨none, 0, rfl, fun h => by simp at h⟩, fun x hx => by cases hx⟩
  · exact ⟨⟨_, _, rfl, fun _ => ⟨b, _, _, rfl, h3⟩⟩, h5⟩
theorem IsSl.kill {H : Heap} {v : Value} {l : List Int} {b : Nat} {y : Lf} {ys : List Lf} {e : TypeId} {ro : Bool} (hb : H.get b = some (.cells (cellsL (y :: ys)) e ro)) (hy : y.At H) (h : IsSl H v l.length (ints l)) : IsSl (H.kill b) v l.length (ints l) := by
  obtain ⟨a, cap, rfl, h1⟩ := h
  refine ⟨a, cap, rfl, fun hn => ?_⟩
  obtain ⟨b1, e1, ro1, rfl, hb1⟩ := h1 hn
  refine ⟨b1, e1, ro1, rfl, ?_⟩
  have : b1 ≠ b := fun e => by
    subst e
    rw [hb] at hb1
    simp only [Option.some.injEq, Blk.cells.injEq] at hb1
    exact ints_ne hy hb1.1.symm
  rw [Heap.get_kill, if_neg this]; exact hb1
theorem Lf.At.kill {H : Heap} {x : Lf} {b : Nat} {ys : List Lf} {e : TypeId} {ro : Bool} (hb : H.get b = some (.cells (cellsL ys) e ro)) (hn : ys ≠ []) (hy : ∀ y ∈ ys, y.At H) (h : x.At H) : x.At (H.kill b) := by
  cases ys with
  | nil => exact absurd rfl hn
  | cons y ys => exact ⟨h.1, h.2.1, h.2.2.1.kill hb (hy y (List.mem_cons_self ..)), h.2.2.2.kill hb (hy y (List.mem_cons_self ..))⟩

def Holds (H : Heap) (g : Value) (p : Fm → Bool) : Prop := ∃ (f : FuncId) (ys : List Value), g = .func (.func f) #[] ys.toArray ∧ ∀ (x : Lf) H', Ext H H' → x.At H' → CallQ prog f ([.agg x.cells.toArray] ++ ys) H' fun u H'' => u = .bool (p x.f) ∧ ∃ m, H'' = H'.up m
def CapOk (n cap : Nat) : Prop := cap = UNK + 1 ∨ (n ≤ cap ∧ cap < UNK)
def SlF (M : Nat) (v : Value) (l : List Int) : Prop := (l = [] ∧ v = .slice none 0 0) ∨ (l ≠ [] ∧ ∃ b cap, v = .slice (some ⟨b, 0, none⟩) l.length cap ∧ M ≤ b ∧ CapOk l.length cap)
theorem SlF.mono {M M' : Nat} {v : Value} {l : List Int} (hm : M' ≤ M) (h : SlF M v l) : SlF M' v l := by
  rcases h with h | ⟨h, b, cap, h1, h2, h3⟩
  · exact .inl h
  · exact .inr ⟨h, b, cap, h1, by omega, h3⟩
def Lf.Fr (M : Nat) (x : Lf) : Prop := SlF M x.sv x.f.shapes ∧ SlF M x.tv x.f.slots
theorem Lf.Fr.mono {M M' : Nat} {x : Lf} (hm : M' ≤ M) (h : x.Fr M) : x.Fr M' := ⟨h.1.mono hm, h.2.mono hm⟩
def Tells (T : Heap → Prop) (f : FuncId) (L : List Fm) : Prop := ∀ H, T H → CallQ prog f [] H fun u H' => Ext H H' ∧ ∃ xs : List Lf, xs.map (·.f) = L ∧ Acc H H' u xs ∧ xs.length ≤ 1000 ∧ ∀ x ∈ xs, x.Fr H.next

theorem fms_kill {H : Heap} {v : Value} {xs ys : List Lf} {b : Nat} {e : TypeId} {ro : Bool} (hb : H.get b = some (.cells (cellsL ys) e ro)) (hn : ys ≠ []) (hy : ∀ y ∈ ys, y.At H) (h : FmsAt H v xs) (hne : ∀ a l c, v = .slice (some a) l c → a.block ≠ b) : FmsAt (H.kill b) v xs := by
  obtain ⟨⟨a, cap, rfl, h1⟩, h2⟩ := h
  refine ⟨⟨a, cap, rfl, fun hl => ?_⟩, fun x hx => (h2 x hx).kill hb hn hy⟩
  obtain ⟨b1, e1, ro1, rfl, hb1⟩ := h1 hl
  exact ⟨b1, e1, ro1, rfl, by rw [Heap.get_kill, if_neg (hne _ _ _ rfl)]; exact hb1⟩

theorem Acc.mono {H0 H1 H : Heap} {v : Value} {ys : List Lf} (hn : H0.next ≤ H1.next) (h : Acc H1 H v ys) : Acc H0 H v ys := by
  rcases h with h | ⟨b, h1, h2, h3⟩
  · exact .inl h
  · exact .inr ⟨b, h1, by omega, h3⟩
def KeepA (H H' : Heap) (v : Value) : Prop := ∀ id bl, H.get id = some bl → (∀ a l c, v = .slice (some a) l c → id ≠ a.block) → H'.get id = some bl
theorem KeepA.ints {H0 H H' : Heap} {v s : Value} {ys : List Lf} {l : List Int} (hk : KeepA H H' v) (ha : Acc H0 H v ys) (h : IsSl H s l.length (ints l)) : IsSl H' s l.length (ints l) := by
  obtain ⟨a, cap, rfl, h1⟩ := h
  refine ⟨a, cap, rfl, fun hn => ?_⟩
  obtain ⟨b1, e1, ro1, rfl, hb1⟩ := h1 hn
  refine ⟨b1, e1, ro1, rfl, hk _ _ hb1 fun a l c hv e => ?_⟩
  rcases ha with ⟨rfl, _⟩ | ⟨b, rfl, h2, h3, h4, h5⟩
  · cases hv
  · cases hv
    subst e
    cases ys with
    | nil => exact h4 rfl
    | cons y ys =>
      rw [h3] at hb1
      simp only [Option.some.injEq, Blk.cells.injEq] at hb1
      exact ints_ne (h5 y (List.mem_cons_self ..)) hb1.1.symm
theorem KeepA.at {H0 H H' : Heap} {v : Value} {ys : List Lf} {x : Lf} (hk : KeepA H H' v) (ha : Acc H0 H v ys) (h : x.At H) : x.At H' := ⟨h.1, h.2.1, hk.ints ha h.2.2.1, hk.ints ha h.2.2.2⟩
theorem KeepA.fms {H0 H H' : Heap} {v u : Value} {ys xs : List Lf} (hk : KeepA H H' v) (ha : Acc H0 H v ys) (h : FmsAt H u xs) (hne : ∀ a l c a' l' c', u = .slice (some a) l c → v = .slice (some a') l' c' → a.block ≠ a'.block) : FmsAt H' u xs := by
  obtain ⟨⟨a, cap, rfl, h1⟩, h2⟩ := h
  refine ⟨⟨a, cap, rfl, fun hl => ?_⟩, fun x hx => hk.at ha (h2 x hx)⟩
  obtain ⟨b1, e1, ro1, rfl, hb1⟩ := h1 hl
  exact ⟨b1, e1, ro1, rfl, hk _ _ hb1 fun a l c hv => hne _ _ _ _ _ _ rfl hv⟩
theorem KeepA.next {H H' : Heap} {v : Value} (_ : KeepA H H' v) : True := trivial
theorem Acc.app {H0 H : Heap} {v : Value} {ys : List Lf} {x : Lf} {b1 : Nat} {K : Value → Heap → Prop} (h : Acc H0 H v ys) (hx : Ext H0 H) (hw : H.Wf) (hxa : x.At H) (hl : ys.length ≤ 100000) (hb1 : H.get b1 = some (.cells x.cells T_api_Form false)) (hne : ∀ a l c, v = .slice (some a) l c → a.block ≠ b1)
    (hK : ∀ v' H', Ext H0 H' → H'.Wf → H.next ≤ H'.next → Acc H0 H' v' (ys ++ [x]) → (∀ a l c, v' = .slice (some a) l c → H.next ≤ a.block) → KeepA H H' v → K v' H') : appK T_api_Form 10 112 v (.slice (some ⟨b1, 0, none⟩) 1 1) H K := by
  have hsrc : asrc 10 (.slice (some ⟨b1, 0, none⟩) 1 1) H = some (1, x.cells) := by
    have := asrc_sl (size := 10) (m := 1) (b := b1) (o := 0) (cap := 1) (c := x.cells) (e := T_api_Form) (ro := false) (H := H) hb1 (by decide) (by rw [lcells_length]; decide)
    rw [this]; rfl
  have a1 := lcells_all hxa
  have hn0 := hx.next
  rcases id h with ⟨rfl, rfl⟩ | ⟨b, rfl, hb0, hgb, hyn, hya⟩
  · refine appK_nil hsrc a1 (by decide) (by decide) (by decide) ?_
    have hk : KeepA H (H.push (.cells x.cells T_api_Form false)) (.slice none 0 0) := fun id bl hg _ => by
      rw [Heap.get_push, if_neg (by have := hw.lt hg; omega)]; exact hg
    refine hK _ _ (hx.push _) (hw.push _) (by simp) (.inr ⟨H.next, rfl, hn0, by rw [Heap.get_push, if_pos rfl]; simp [cellsL], by simp, fun y hy => ?_⟩) (fun a l c e => by cases e; exact Nat.le_refl _) hk
    simp only [List.nil_append, List.mem_singleton] at hy
    subst hy
    exact hk.at h hxa
  · have hbl := hw.lt hgb
    have hbn : b ≠ b1 := hne _ _ _ rfl
    refine appK_own rfl hsrc a1 (by decide) (c := cellsL ys) hgb (by rw [cellsL_length]; omega) (by omega) (by omega) (by unfold UNK; omega) ?_
    have hk : KeepA H ((H.kill b).push (.cells (cellsL ys ++ x.cells) T_api_Form false)) (.slice (some ⟨b, 0, none⟩) ys.length (UNK + 10)) := fun id bl hg hn => by
      rw [Heap.get_push, if_neg (by have := hw.lt hg; simp; omega), Heap.get_kill, if_neg (hn _ _ _ rfl)]; exact hg
    have := hK (.slice (some ⟨H.next, 0, none⟩) (ys.length + 1) (UNK + 10)) ((H.kill b).push (.cells (cellsL ys ++ x.cells) T_api_Form false)) ((hx.kill hb0).push _) ((hw.kill _).push _) (by simp)
      (.inr ⟨H.next, by simp, hn0, by rw [Heap.get_push, if_pos (by simp), cellsL_snoc], by simp, fun y hy => ?_⟩) (fun a l c e => by cases e; exact Nat.le_refl _) hk
    · exact this
    · simp only [List.mem_append, List.mem_singleton] at hy
      rcases hy with hy | rfl
      · exact hk.at h (hya y hy)
      · exact hk.at h hxa

theorem cellsV_func (f : Fn) (xs ys : Array Value) : (Value.func f xs ys).cells.toList = [.func f xs ys] := Eq.trans rfl rfl
theorem oneCell_func (f : Fn) (xs ys : Array Value) : (Value.func f xs ys).oneCell' = true := Eq.trans rfl rfl
theorem cvK_plain (f : FuncId) (l : List Value) (H : Heap) (k : Value → Heap → Prop) : cvK (.func (.func f) #[] #[]) prog l H k = CallQ prog f l H k := by
  show CallQ prog f (([] : List Value) ++ l ++ []) H k = _
  rw [List.nil_append, List.append_nil]
theorem cvK_env (f : FuncId) (ys l : List Value) (H : Heap) (k : Value → Heap → Prop) : cvK (.func (.func f) #[] ys.toArray) prog l H k = CallQ prog f (l ++ ys) H k := by
  show CallQ prog f (([] : List Value) ++ l ++ ys) H k = _
  rw [List.nil_append]

def lis : List (Int × Int × FuncId) := [(1, 16, f_alu_Rows), (16, 47, f_unary_Rows), (48, 115, f_flow_Rows), (116, 135, f_bits_Rows), (136, 262, f_sse_Rows), (263, 322, f_avx_Rows)]
def liC (x : Int × Int × FuncId) : List Value := [.int .i64 x.1, .int .i64 x.2.1, .func (.func x.2.2) #[] #[]]
theorem q_table_lists (H : Heap) : CallQ prog f_table_lists [] H fun u H' => u = .slice (some ⟨H.next, 0, none⟩) 6 6 ∧ H' = H.push (.cells (lis.flatMap liC) T_table_list false) := by
  refine in_table_lists fun hw => ?_
  simp only [pc_table_lists, sxA, sxB, Nat.reduceBEq, Nat.reduceEqDiff, reduceCtorEq, mxA, mxB, Nat.reduceAdd, reduceIte, Nat.reduceLeDiff, splice, cellsV_func, oneCell_func, ret_table_lists, Nat.reduceMul, Nat.reduceLeDiff, if_true]
  exact .mk (by simp) ⟨rfl, rfl⟩

theorem liC_at : ∀ (l : List (Int × Int × FuncId)) (i : Nat) (p : Int × Int × FuncId), l[i]? = some p → ((l.flatMap liC).drop (i * 3)).take 3 = liC p
  | [], i, p, h => by simp at h
  | q :: l, 0, p, h => by
    simp at h; subst h
    simp [liC]
  | q :: l, i + 1, p, h => by
    have e : ((q :: l).flatMap liC) = liC q ++ l.flatMap liC := by simp
    have n : (liC q).length = 3 := rfl
    rw [e, show (i + 1) * 3 = (liC q).length + i * 3 by rw [n]; omega, List.drop_append, List.drop_of_length_le (by omega), List.nil_append, Nat.add_sub_cancel_left]
    exact liC_at l i p (by simpa using h)

def colF (LL : FuncId → List Fm) (fr to : Int) (p : Fm → Bool) (l : List (Int × Int × FuncId)) : List Fm := l.flatMap fun x => bif decide (to < x.1) || decide (fr > x.2.1) then [] else (LL x.2.2).filter p

theorem q_table_collect {T : Heap → Prop} (hT : ∀ H H', H.Wf → T H → Ext H H' → T H') (LL : FuncId → List Fm) (hL : ∀ x ∈ lis, Tells T x.2.2 (LL x.2.2)) (fr to : Int) (g : Value) (p : Fm → Bool) (H : Heap) (hg : Holds H g p) (ht : T H) :
    CallQ prog f_table_collect [.int .i64 fr, .int .i64 to, g] H fun u H' => Ext H H' ∧ ∃ ys : List Lf, ys.map (·.f) = colF LL fr to p lis ∧ Acc H H' u ys ∧ ys.length ≤ 6000 ∧ ∀ y ∈ ys, y.Fr H.next := by
  refine in_table_collect fun hw => ?_
  obtain ⟨gf, gys, rfl, hg⟩ := hg
  simp only [pc_table_collect, sxA, sxB, Nat.reduceBEq, Nat.reduceEqDiff, reduceCtorEq, mxA, mxB, Nat.reduceAdd, reduceIte, Nat.reduceLeDiff, splice]
  refine (q_table_lists H).thenW ?_
  rintro _ _ hn0 hw0 ⟨rfl, rfl⟩
  simp only [sxA, sxB, Nat.reduceBEq, Nat.reduceEqDiff, reduceCtorEq, mxA, mxB, Nat.reduceAdd, reduceIte, Nat.reduceLeDiff, splice]
  have hbl0 : (H.push (.cells (lis.flatMap liC) T_table_list false)).get H.next = some (.cells (lis.flatMap liC) T_table_list false) := by rw [Heap.get_push, if_pos rfl]
  have hxp0 : Ext H (H.push (.cells (lis.flatMap liC) T_table_list false)) := (Ext.refl H).push _
  have hnp0 : (H.push (.cells (lis.flatMap liC) T_table_list false)).next = H.next + 1 := rfl
  generalize H.push (.cells (lis.flatMap liC) T_table_list false) = Hp at hw0 hbl0 hxp0 hnp0
  have htp := hT _ _ hw ht hxp0
  refine loop_intro (fun m A' H' => ∃ (i : Nat) (ys : List Lf), i ≤ 6 ∧ m = 6 - i ∧ H'.Wf ∧ Ext Hp H' ∧ ys.map (·.f) = colF LL fr to p (lis.take i) ∧ ys.length ≤ i * 1000 ∧ Acc Hp H' (A' 7) ys ∧ (∀ y ∈ ys, y.Fr H.next) ∧
    A' 0 = .int .i64 fr ∧ A' 1 = .int .i64 to ∧ A' 2 = .func (.func gf) #[] gys.toArray ∧ A' 12 = .slice (some ⟨H.next, 0, none⟩) 6 6 ∧ A' 13 = .int .i64 6 ∧ A' 14 = .int .i64 i) 6 ?_ ?_
  · refine ⟨0, [], Nat.zero_le _, rfl, hw0, .refl _, rfl, Nat.zero_le _, ?_, fun y hy => (by cases hy), ?_, ?_, ?_, ?_, ?_, ?_⟩
    all_goals simp only [uxA, uxB, Nat.reduceBEq]
    · exact .inl ⟨rfl, rfl⟩
    all_goals rfl
  · rintro m A' H' ⟨i, ys, hi, rfl, hw1, hx1, hys, hyl, hacc, hyf, r0, r1, r2, r12, r13, r14⟩
    have ht1 := hT _ _ hw0 htp hx1
    have hbl : H'.get H.next = some (.cells (lis.flatMap liC) T_table_list false) := by rw [hx1.get _ (hw0.lt hbl0)]; exact hbl0
    simp only [sxA, sxB, Nat.reduceBEq, Nat.reduceEqDiff, reduceCtorEq, mxA, mxB, Nat.reduceAdd, reduceIte, Nat.reduceLeDiff, splice, r13, r14]
    refine cB_cases (fun h2 => ?_) (fun h2 => ?_)
    · have h2 : i < 6 := by have := of_decide_eq_true h2; omega
      have hp : lis[i]? = some (lis[i]'h2) := List.getElem?_eq_getElem h2
      generalize hpe : lis[i]'h2 = x at hp
      have hxm : x ∈ lis := List.mem_of_getElem? hp
      have c1 : (0 : Int) ≤ i ∧ (i : Int) < ((6 : Nat) : Int) := by omega
      have c3 : (i : Int).toNat = i := by omega
      have c4 : i * 3 + 3 ≤ 18 := by omega
      have n1 : (lis.flatMap liC).length = 18 := rfl
      obtain ⟨xa, xb, xf⟩ := x
      have d1 : List.take 3 (List.drop (i * 3) (lis.flatMap liC)) = [.int .i64 xa, .int .i64 xb, .func (.func xf) #[] #[]] := liC_at lis i _ hp
      have ei : IntKind.i64.wrap ((i : Int) + 1) = ((i + 1 : Nat) : Int) := by rw [w64 (by unfold I64; omega)]; omega
      simp only [sxA, sxB, Nat.reduceBEq, Nat.reduceEqDiff, reduceCtorEq, mxA, mxB, Nat.reduceAdd, reduceIte, Nat.reduceLeDiff, splice, cellsV_func, oneCell_func, r0, r1, r12, r14, c1, c3, c4, hbl, n1, d1]
      have htk : lis.take (i + 1) = lis.take i ++ [(xa, xb, xf)] := by rw [List.take_add_one, hp]; rfl
      obtain ⟨q1, e1⟩ : ∃ c, decide (to < xa) = c := ⟨_, rfl⟩
      obtain ⟨q2, e2⟩ : ∃ c, decide (fr > xb) = c := ⟨_, rfl⟩
      obtain ⟨Hn, hHn⟩ : ∃ h, h = (H'.push (.cells [.int .i64 0, .int .i64 0, .nilFunc] T_table_list false)).set H'.next (.cells [.int .i64 xa, .int .i64 xb, .func (.func xf) #[] #[]] T_table_list false) := ⟨_, rfl⟩
      have hwn : Hn.Wf := by rw [hHn]; exact (hw1.push _).set (by rw [Heap.get_push, if_pos rfl]) _
      have hxp : Ext H' Hn := by rw [hHn]; exact ((Ext.refl H').push _).set (Nat.le_refl _) _
      have hgn : Hn.get H'.next = some (.cells [.int .i64 xa, .int .i64 xb, .func (.func xf) #[] #[]] T_table_list false) := by rw [hHn, Heap.get_set, if_pos rfl]
      have hnn : Hn.next = H'.next + 1 := by rw [hHn]; rfl
      simp only [← hHn]
      have hskip : (q1 || q2) = true → ys.map (·.f) = colF LL fr to p (lis.take (i + 1)) := fun h => by
        rw [htk, colF, List.flatMap_append, ← colF, ← hys]
        simp [e1, e2, h]
      have hadd : (q1 || q2) = false → ys.map (·.f) ++ (LL xf).filter p = colF LL fr to p (lis.take (i + 1)) := fun h => by
        rw [htk, colF, List.flatMap_append, ← colF, ← hys]
        simp [e1, e2, h]
      cases q1 <;> simp only [sxA, sxB, Nat.reduceBEq, Nat.reduceEqDiff, reduceCtorEq, mxA, mxB, Nat.reduceAdd, reduceIte, Nat.reduceLeDiff, splice, r0, r1, r14, e1, e2, ei, hgn]
      · cases q2 <;> simp only [sxA, sxB, Nat.reduceBEq, Nat.reduceEqDiff, reduceCtorEq, mxA, mxB, Nat.reduceAdd, reduceIte, Nat.reduceLeDiff, splice, r0, r1, r14, ei, hgn, cvK_plain]
        · refine (hL _ hxm Hn (hT _ _ hw1 ht1 hxp)).thenW ?_
          rintro u H2 hn2 hw2 ⟨hx2, xs, hxs, hacx, hxl, hxfr⟩
          have hfm := hacx.fms
          have hfr : ∀ a l c, u = .slice (some a) l c → Hn.next ≤ a.block := fun a l c e => by
            rcases hacx with ⟨rfl, _⟩ | ⟨b, rfl, hb, _⟩
            · cases e
            · cases e; exact hb
          obtain ⟨aa, cap, rfl, hsl⟩ := id hfm.1
          simp only [sxA, sxB, Nat.reduceBEq, Nat.reduceEqDiff, reduceCtorEq, mxA, mxB, Nat.reduceAdd, reduceIte, Nat.reduceLeDiff, splice]
          have ha2 := (hacc.ext hw1 hxp).ext hwn hx2
          have hx02 : Ext Hp H2 := (hx1.trans hxp).trans hx2
          have hge : H.next ≤ Hn.next := by have := hx1.next; have := hxp.next; omega
          refine loop_intro (fun m A2 H3 => ∃ (k : Nat) (zs : List Lf), k ≤ xs.length ∧ m = xs.length - k ∧ H3.Wf ∧ Ext Hp H3 ∧ zs.map (·.f) = ys.map (·.f) ++ ((xs.take k).map (·.f)).filter p ∧ zs.length ≤ ys.length + k ∧ Acc Hp H3 (A2 7) zs ∧ FmsAt H3 (.slice aa xs.length cap) xs ∧ (∀ z ∈ zs, z.Fr H.next) ∧
            (∀ a l c b, A2 7 = .slice (some a) l c → aa = some b → b.block ≠ a.block) ∧
            A2 0 = .int .i64 fr ∧ A2 1 = .int .i64 to ∧ A2 2 = .func (.func gf) #[] gys.toArray ∧ A2 12 = .slice (some ⟨H.next, 0, none⟩) 6 6 ∧ A2 13 = .int .i64 6 ∧ A2 14 = .int .i64 i ∧ A2 30 = .slice aa xs.length cap ∧ A2 31 = .int .i64 xs.length ∧ A2 32 = .int .i64 k) xs.length ?_ ?_
          · refine ⟨0, ys, Nat.zero_le _, rfl, hw2, hx02, by simp, by omega, ?_, hfm, hyf, ?_, ?_, ?_, ?_, ?_, ?_, ?_, ?_, ?_, ?_⟩
            all_goals simp only [uxA, uxB, Nat.reduceBEq, r0, r1, r2, r12, r13, r14]
            · exact ha2
            · intro a l c b hv hb
              subst hb
              have h1 := hfr _ _ _ rfl
              rcases hacc with ⟨h, _⟩ | ⟨b2, h, _, h3, _⟩
              · rw [h] at hv; cases hv
              · rw [h] at hv; cases hv
                have := hw1.lt h3
                simp only
                omega
            all_goals rfl
          · rintro m A2 H3 ⟨k, zs, hk, rfl, hw3, hx3, hzs, hzl, hac3, hfm3, hzf, hne3, s0, s1, s2, s12, s13, s14, s30, s31, s32⟩
            simp only [sxA, sxB, Nat.reduceBEq, Nat.reduceEqDiff, reduceCtorEq, mxA, mxB, Nat.reduceAdd, reduceIte, Nat.reduceLeDiff, splice, s31, s32]
            refine cB_cases (fun h3 => ?_) (fun h3 => ?_)
            · have h3 : k < xs.length := by have := of_decide_eq_true h3; omega
              obtain ⟨⟨a4, cap4, e4, hsl3⟩, hxa3⟩ := id hfm3
              cases e4
              obtain ⟨b1, e1', ro1, rfl, hb1⟩ := hsl3 (by omega)
              have d1 : (0 : Int) ≤ k ∧ (k : Int) < xs.length := by omega
              have d3 : (k : Int).toNat = k := by omega
              have d4 : k * 10 + 10 ≤ xs.length * 10 := by omega
              have ek : IntKind.i64.wrap ((k : Int) + 1) = ((k + 1 : Nat) : Int) := by rw [w64 (by unfold I64; omega)]; omega
              have hpk := List.getElem?_eq_getElem h3
              have dd := cellsL_at xs k _ hpk
              have nn := cellsL_length xs
              have hym : xs[k] ∈ xs := List.getElem_mem h3
              have wk := hxa3 _ hym
              have wf : (xs[k]).Fr H.next := (hxfr _ hym).mono hge
              have hxtk : xs.take (k + 1) = xs.take k ++ [xs[k]] := List.take_succ_eq_append_getElem h3
              generalize xs[k] = x at hpk dd hym wk wf hxtk
              have ak := lcells_all wk
              simp only [sxA, sxB, Nat.reduceBEq, Nat.reduceEqDiff, reduceCtorEq, mxA, mxB, Nat.reduceAdd, reduceIte, Nat.reduceLeDiff, splice, s0, s1, s2, s30, s32, d1, d3, d4, hb1, nn, dd, lcells_length, lcells_take, ak]
              obtain ⟨G1, hG1⟩ : ∃ h, h = (H3.push (.cells [.int .i64 0, .slice none 0 0, .slice none 0 0, .int .i64 0, .int .i64 0, .int .i64 0, .int .i64 0, .int .i64 0, .bool false, .int .i64 0] T_api_Form false)).set H3.next (.cells x.cells T_api_Form false) := ⟨_, rfl⟩
              have hwG1 : G1.Wf := by rw [hG1]; exact (hw3.push _).set (by rw [Heap.get_push, if_pos rfl]) _
              have hxG1 : Ext H3 G1 := by rw [hG1]; exact ((Ext.refl H3).push _).set (Nat.le_refl _) _
              have hgG1 : G1.get H3.next = some (.cells x.cells T_api_Form false) := by rw [hG1, Heap.get_set, if_pos rfl]
              have hnG1 : G1.next = H3.next + 1 := by rw [hG1]; rfl
              simp only [← hG1, cvK_env]
              have hxH3 : Ext H H3 := hxp0.trans hx3
              refine (hg x G1 (hxH3.trans hxG1) (wk.ext hw3 hxG1)).thenW ?_
              rintro _ G2 hn4 hw4 ⟨rfl, m4, rfl⟩
              simp only [Heap.next_up] at hn4
              have hxG2 : Ext H3 (G1.up m4) := hxG1.up hn4
              have hgG2 : (G1.up m4).get H3.next = some (.cells x.cells T_api_Form false) := by rw [Heap.get_up]; exact hgG1
              have hnG2 : H3.next + 1 ≤ (G1.up m4).next := by simp only [Heap.next_up]; omega
              generalize G1.up m4 = G2 at hw4 hxG2 hgG2 hnG2
              have hfil : ((xs.take (k + 1)).map (·.f)).filter p = ((xs.take k).map (·.f)).filter p ++ bif p x.f then [x.f] else [] := by
                rw [hxtk, List.map_append, List.filter_append]
                cases hpx : p x.f <;> simp [hpx]
              simp only [sxA, sxB, Nat.reduceBEq, Nat.reduceEqDiff, reduceCtorEq, mxA, mxB, Nat.reduceAdd, reduceIte, Nat.reduceLeDiff, splice]
              cases hpx : p x.f
              · rw [hpx] at hfil
                simp only [sxA, sxB, Nat.reduceBEq, Nat.reduceEqDiff, reduceCtorEq, mxA, mxB, Nat.reduceAdd, reduceIte, Nat.reduceLeDiff, splice, s32, ek]
                refine ⟨xs.length - (k + 1), by omega, k + 1, zs, by omega, rfl, hw4, hx3.trans hxG2, by rw [hfil, hzs]; simp, by omega, ?_, hfm3.ext hw3 hxG2, hzf, ?_, ?_, ?_, ?_, ?_, ?_, ?_, ?_, ?_, ?_⟩
                all_goals simp only [uxA, uxB, Nat.reduceBEq, s0, s1, s2, s12, s13, s14, s30, s31]
                · exact hac3.ext hw3 hxG2
                · exact fun a l c b h1 h2 => hne3 a l c b h1 (by rw [h2])
              · rw [hpx] at hfil
                simp only [sxA, sxB, Nat.reduceBEq, Nat.reduceEqDiff, reduceCtorEq, mxA, mxB, Nat.reduceAdd, reduceIte, Nat.reduceLeDiff, splice, hgG2, lcells_length, lcells_take, ak]
                have hac5 := (hac3.ext hw3 hxG2).ext hw4 ((Ext.refl G2).push (.cells x.cells T_api_Form false))
                have hx5 : Ext H3 (G2.push (.cells x.cells T_api_Form false)) := hxG2.push _
                have hb5 := hfm3.ext hw3 hx5
                refine Acc.app hac5 (hx3.trans hx5) (hw4.push _) (wk.ext hw3 hx5) (by omega) (by rw [Heap.get_push, if_pos rfl]) (fun a l c hv e => ?_) fun v' H6 y1 y2 y3 y4 y5 y6 => ?_
                · rcases hac3 with ⟨h, _⟩ | ⟨b2, h, _, h3', _⟩
                  · rw [h] at hv; cases hv
                  · rw [h] at hv; cases hv
                    have := hw3.lt h3'
                    simp only at e
                    omega
                · simp only [sxA, sxB, Nat.reduceBEq, Nat.reduceEqDiff, reduceCtorEq, mxA, mxB, Nat.reduceAdd, reduceIte, Nat.reduceLeDiff, splice, s32, ek]
                  refine ⟨xs.length - (k + 1), by omega, k + 1, zs ++ [x], by omega, rfl, y2, y1, by rw [hfil, List.map_append, hzs]; simp, by simp; omega, ?_, y6.fms hac5 hb5 fun a l c a' l' c' ha hv => ?_, ?_, ?_, ?_, ?_, ?_, ?_, ?_, ?_, ?_, ?_, ?_⟩
                  rotate_left 2
                  · intro z hz
                    simp only [List.mem_append, List.mem_singleton] at hz
                    rcases hz with hz | rfl
                    · exact hzf z hz
                    · exact wf
                  · intro a l c b hv hb
                    cases hb
                    simp only [uxA, uxB, Nat.reduceBEq] at hv
                    have h1 := y5 a l c hv
                    have h2 := hw3.lt hb1
                    simp only [Heap.next_push] at h1
                    simp only
                    omega
                  rotate_right 2
                  · simp only [uxA, uxB, Nat.reduceBEq]
                    exact y4
                  · cases ha
                    exact hne3 _ _ _ _ hv rfl
                  all_goals simp only [uxA, uxB, Nat.reduceBEq, s0, s1, s2, s12, s13, s14, s30, s31]
            · have h3 : k = xs.length := by have := of_decide_eq_false h3; omega
              subst h3
              simp only [sxA, sxB, Nat.reduceBEq, Nat.reduceEqDiff, reduceCtorEq, mxA, mxB, Nat.reduceAdd, reduceIte, Nat.reduceLeDiff, splice, s14, ei]
              refine ⟨6 - (i + 1), by omega, i + 1, zs, by omega, rfl, hw3, hx3, ?_, by omega, ?_, hzf, ?_, ?_, ?_, ?_, ?_, ?_⟩
              · rw [← hadd rfl, hzs, List.take_of_length_le (Nat.le_refl _), hxs]
              all_goals simp only [uxA, uxB, Nat.reduceBEq, s0, s1, s2, s12, s13]
              exact hac3
        · refine ⟨6 - (i + 1), by omega, i + 1, ys, by omega, rfl, hwn, hx1.trans hxp, hskip rfl, by omega, ?_, hyf, ?_, ?_, ?_, ?_, ?_, ?_⟩
          all_goals simp only [uxA, uxB, Nat.reduceBEq, r0, r1, r2, r12, r13]
          exact hacc.ext hw1 hxp
      · refine ⟨6 - (i + 1), by omega, i + 1, ys, by omega, rfl, hwn, hx1.trans hxp, hskip rfl, by omega, ?_, hyf, ?_, ?_, ?_, ?_, ?_, ?_⟩
        all_goals simp only [uxA, uxB, Nat.reduceBEq, r0, r1, r2, r12, r13]
        exact hacc.ext hw1 hxp
    · have h2 : i = 6 := by have := of_decide_eq_false h2; omega
      subst h2
      simp only [sxA, sxB, Nat.reduceBEq, Nat.reduceEqDiff, reduceCtorEq, mxA, mxB, Nat.reduceAdd, reduceIte, Nat.reduceLeDiff, splice, ret_table_collect]
      exact .mk (by have := hx1.next; omega) ⟨hxp0.trans hx1, ys, hys, hacc.mono (by omega), by omega, hyf⟩
end Go.Proofs.YtbkbdnlfkahaaaaGreatDoor.code
/- Forms that a call tells, as a picture that may be read. -/
set_option linter.unusedVariables false
set_option linter.unusedSimpArgs false
set_option maxRecDepth 100000
namespace Go.Proofs.YtbkbdnlfkahaaaaGreatDoor.code
open Go.Ab

noncomputable def cS (id : Nat) (l : List Int) : Value := match l with
  | [] => .slice none 0 0
  | _ :: _ => .slice (some ⟨id, 0, none⟩) l.length (UNK + 1)
noncomputable def canL (M : Nat) : Nat → List Fm → List Lf
  | _, [] => []
  | i, x :: xs => ⟨x, cS (M + 1 + 2 * i) x.shapes, cS (M + 2 + 2 * i) x.slots⟩ :: canL M (i + 1) xs
theorem canL_get (M : Nat) : ∀ (L : List Fm) (i k : Nat), (canL M i L)[k]? = (L[k]?).map fun x => ⟨x, cS (M + 1 + 2 * (i + k)) x.shapes, cS (M + 2 + 2 * (i + k)) x.slots⟩
  | [], i, k => by simp [canL]
  | x :: xs, i, 0 => by simp [canL]
  | x :: xs, i, k + 1 => by
    simp only [canL, List.getElem?_cons_succ, canL_get M xs (i + 1) k]
    rw [show i + 1 + k = i + (k + 1) by omega]
theorem canL_length (M : Nat) : ∀ (L : List Fm) (i : Nat), (canL M i L).length = L.length
  | [], i => rfl
  | x :: xs, i => by simp [canL, canL_length M xs (i + 1)]
noncomputable def rowsI : List Fm → List Row
  | [] => []
  | x :: xs => ⟨0, ints x.shapes, 3, true⟩ :: ⟨0, ints x.slots, 3, true⟩ :: rowsI xs
theorem rowsI_length : ∀ L : List Fm, (rowsI L).length = 2 * L.length
  | [] => rfl
  | x :: xs => by simp [rowsI, rowsI_length xs]; omega
theorem rowsI_get : ∀ (L : List Fm) (k : Nat) (r : Row), (rowsI L)[k]? = some r → ∃ x, L[k / 2]? = some x ∧ r = ⟨0, if k % 2 = 0 then ints x.shapes else ints x.slots, 3, true⟩
  | [], k, r, h => by simp [rowsI] at h
  | x :: xs, 0, r, h => by simp [rowsI] at h; exact ⟨x, rfl, by simp [← h]⟩
  | x :: xs, 1, r, h => by simp [rowsI] at h; exact ⟨x, rfl, by simp [← h]⟩
  | x :: xs, k + 2, r, h => by
    simp only [rowsI, List.getElem?_cons_succ] at h
    obtain ⟨y, h1, h2⟩ := rowsI_get xs k r h
    refine ⟨y, by rw [show (k + 2) / 2 = k / 2 + 1 by omega]; simpa using h1, ?_⟩
    rw [h2, show (k + 2) % 2 = k % 2 by omega]
noncomputable def canRows (M : Nat) (L : List Fm) : List Row := match L with
  | [] => []
  | _ :: _ => ⟨0, cellsL (canL M 0 L), T_api_Form, true⟩ :: rowsI L
noncomputable def canV (M : Nat) (L : List Fm) : Value := match L with
  | [] => .slice none 0 0
  | _ :: _ => .slice (some ⟨M, 0, none⟩) L.length (UNK + 10)

theorem cS_ok (id : Nat) (l : List Int) : okD 6 (cS id l) = true := by cases l <;> rfl
theorem ints_ok (l : List Int) : (ints l).all (okD 6) = true := by
  rw [List.all_eq_true]
  intro v hv
  simp only [ints, List.mem_map] at hv
  obtain ⟨x, _, rfl⟩ := hv
  rfl
theorem canL_ok (M : Nat) : ∀ (L : List Fm) (i : Nat), (cellsL (canL M i L)).all (okD 6) = true
  | [], i => rfl
  | x :: xs, i => by
    have ih := canL_ok M xs (i + 1)
    simp only [canL, cellsL, List.flatMap_cons, List.all_append, Bool.and_eq_true] at ih ⊢
    refine ⟨?_, ih⟩
    simp only [Lf.cells, List.all_cons, List.all_nil, cS_ok, Bool.and_true, Bool.true_and]
    rfl
theorem rowsI_ok : ∀ (L : List Fm), ∀ r ∈ rowsI L, r.ro = true ∧ r.c.all (okD 6) = true
  | [], r, h => by cases h
  | x :: xs, r, h => by
    simp only [rowsI, List.mem_cons] at h
    rcases h with rfl | rfl | h
    · exact ⟨rfl, ints_ok _⟩
    · exact ⟨rfl, ints_ok _⟩
    · exact rowsI_ok xs r h
theorem canRows_ok (M : Nat) (L : List Fm) : ∀ r ∈ canRows M L, r.ro = true ∧ r.c.all (okD 6) = true := fun r h => by
  cases L with
  | nil => cases h
  | cons x xs =>
    simp only [canRows, List.mem_cons] at h
    rcases h with rfl | h
    · exact ⟨rfl, canL_ok M _ 0⟩
    · exact rowsI_ok _ r h
theorem canV_ok (M : Nat) (L : List Fm) : okD 6 (canV M L) = true := by cases L <;> rfl

theorem V.newSlice {ρ : Ren} {b n cap s : Nat} {z : Value} (h : V ρ (.slice (some ⟨b, 0, none⟩) n cap) z) : ∃ inf : Info, (∃ i, ρ b = some i ∧ inf.at_ = i.at_) ∧ ∀ (ρc : Ren) (id : Nat), ρc id = some inf → V ρc (.slice (some ⟨id, 0, none⟩) n (UNK + s)) z := by
  cases h with
  | same _ hp => simp [Ab.plain] at hp
  | slice _ _ _ _ cap' i a' h0 h1 h2 h3 h4 h5 =>
    refine ⟨⟨i.at_, cap' * s, s⟩, ⟨i, h0, rfl⟩, fun ρc id hid => .slice id 0 n (UNK + s) cap' ⟨i.at_, cap' * s, s⟩ a' hid h1 h2 h3 (fun _ => ⟨(Nat.add_sub_cancel_left ..).symm, Nat.zero_add _⟩) (fun hc => by omega)⟩

theorem pic_forms {M : Nat} {H1 : Heap} {v : Value} {ys : List Lf} {H0 : Heap} (hm : H0.next = M) (ha : Acc H0 H1 v ys) (hf : ∀ y ∈ ys, y.Fr M) : Pic prog M H1 v (canV M (ys.map (·.f))) (canRows M (ys.map (·.f))) := by
  intro ρ1 w v' hs hv
  rcases ha with ⟨rfl, rfl⟩ | ⟨b, rfl, hb0, hgb, hyn, hya⟩
  · refine ⟨fun _ => 0, fun _ => ⟨⟨0, 0, none⟩, 0, 0⟩, fun k hk => by simp [canRows] at hk, ?_, fun k r hr => by simp [canRows] at hr⟩
    have := V.plain_eq hv rfl
    subst this
    exact .same _ rfl
  · obtain ⟨inf0, ⟨i0, hi0, hat0⟩, hV0⟩ := V.newSlice (s := 10) hv
    have hlive := hs.live b _ i0 hgb hi0
    obtain ⟨y0, ys0, rfl⟩ : ∃ y0 ys0, ys = y0 :: ys0 := by
      cases ys with
      | nil => exact absurd rfl hyn
      | cons a l => exact ⟨a, l, rfl⟩
    have eL : (y0 :: ys0).map (·.f) = y0.f :: ys0.map (·.f) := rfl
    generalize hys : y0 :: ys0 = ys at *
    generalize hL : ys.map (·.f) = L at *
    have hLlen : L.length = ys.length := by rw [← hL]; simp
    have hrows : canRows M L = ⟨0, cellsL (canL M 0 L), T_api_Form, true⟩ :: rowsI L := by rw [eL]; rfl
    have hcv : canV M L = .slice (some ⟨M, 0, none⟩) ys.length (UNK + 10) := by rw [← hLlen, eL]; rfl
    -- what a row of numbers needs
    have one : ∀ (l : List Int) (s : Value) (z : Value), SlF M s l → IsSl H1 s l.length (ints l) → V ρ1 s z → ∃ (src : Nat) (inf : Info), (M ≤ src ∧ ∃ i, ρ1 src = some i ∧ inf.at_ = i.at_) ∧ (∀ (ρc : Ren) (id : Nat), ρc id = some inf → V ρc (cS id l) z) ∧ ∀ ρc, BlkRel prog ρc inf w (.cells (ints l) 3 true) := by
      intro l s z hsf hsl hz
      rcases hsf with ⟨rfl, rfl⟩ | ⟨hl, b1, cap, rfl, hb1, _⟩
      · have := V.plain_eq hz rfl
        subst this
        exact ⟨b, inf0, ⟨by omega, i0, hi0, hat0⟩, fun ρc id _ => .same _ rfl, fun ρc => ⟨by rw [hat0]; exact hlive.lt, fun j v hj => by simp [ints] at hj⟩⟩
      · obtain ⟨inf, ⟨i, hi, hat⟩, hV⟩ := V.newSlice (s := 1) hz
        obtain ⟨a, c, e, h1⟩ := hsl
        cases e
        obtain ⟨b2, e2, ro2, e3, hg2⟩ := h1 (List.length_pos_iff.2 hl)
        cases e3
        have hl2 := hs.live b1 _ i hg2 hi
        refine ⟨b1, inf, ⟨hb1, i, hi, hat⟩, fun ρc id hid => ?_, fun ρc => ⟨by rw [hat]; exact hl2.lt, fun j v hj => ?_⟩⟩
        · have := hV ρc id hid
          cases l with
          | nil => exact absurd rfl hl
          | cons _ _ => exact this
        · obtain ⟨v1, h3, h4⟩ := hl2.cellAt hj
          rw [hat]
          refine ⟨v1, h3, ?_⟩
          have hpl : Ab.plain v = true := by
            have := List.mem_of_getElem? hj
            simp only [ints, List.mem_map] at this
            obtain ⟨x, _, rfl⟩ := this
            rfl
          rw [h4.plain_eq hpl]
          exact .same _ hpl
    -- the rows, one by one
    have hall : ∀ k, k < 2 * ys.length → ∃ (p : Nat × Info), (M ≤ p.1 ∧ ∃ i, ρ1 p.1 = some i ∧ p.2.at_ = i.at_) ∧ ∀ y, ys[k / 2]? = some y → ((∀ z, w.cell? (i0.at_.add (k / 2 * 10 + 1 + k % 2)) = some z → ∀ (ρc : Ren) (id : Nat), ρc id = some p.2 → V ρc (cS id (if k % 2 = 0 then y.f.shapes else y.f.slots)) z) ∧ ∀ ρc, BlkRel prog ρc p.2 w (.cells (if k % 2 = 0 then ints y.f.shapes else ints y.f.slots) 3 true)) := by
      intro k hk
      have hk2 : k / 2 < ys.length := by omega
      have hy := List.getElem?_eq_getElem hk2
      have hym := List.mem_of_getElem? hy
      generalize ys[k / 2]'hk2 = y at hy hym
      have hy1 := hya y hym
      have hy2 := hf y hym
      by_cases h0 : k % 2 = 0
      · have hc : (cellsL ys)[k / 2 * 10 + 1]? = some y.sv := by rw [cellsL_cell ys _ 1 y hy (by decide)]; rfl
        obtain ⟨z, hz1, hz2⟩ := hlive.cellAt hc
        obtain ⟨src, inf, h1, h2, h3⟩ := one _ _ _ hy2.1 hy1.2.2.1 hz2
        refine ⟨(src, inf), h1, fun y' hy' => ?_⟩
        rw [hy] at hy'; cases hy'
        simp only [h0, if_true, Nat.add_zero]
        exact ⟨fun z' hz' ρc id hid => by rw [hz1] at hz'; cases hz'; exact h2 ρc id hid, h3⟩
      · have hc : (cellsL ys)[k / 2 * 10 + 2]? = some y.tv := by rw [cellsL_cell ys _ 2 y hy (by decide)]; rfl
        obtain ⟨z, hz1, hz2⟩ := hlive.cellAt hc
        obtain ⟨src, inf, h1, h2, h3⟩ := one _ _ _ hy2.2 hy1.2.2.2 hz2
        refine ⟨(src, inf), h1, fun y' hy' => ?_⟩
        rw [hy] at hy'; cases hy'
        simp only [h0, if_false, show k % 2 = 1 by omega]
        exact ⟨fun z' hz' ρc id hid => by rw [hz1] at hz'; cases hz'; exact h2 ρc id hid, h3⟩
    have hpick : ∃ g : Nat → Nat × Info, ∀ k, k < 2 * ys.length → (M ≤ (g k).1 ∧ ∃ i, ρ1 (g k).1 = some i ∧ (g k).2.at_ = i.at_) ∧ ∀ y, ys[k / 2]? = some y → ((∀ z, w.cell? (i0.at_.add (k / 2 * 10 + 1 + k % 2)) = some z → ∀ (ρc : Ren) (id : Nat), ρc id = some (g k).2 → V ρc (cS id (if k % 2 = 0 then y.f.shapes else y.f.slots)) z) ∧ ∀ ρc, BlkRel prog ρc (g k).2 w (.cells (if k % 2 = 0 then ints y.f.shapes else ints y.f.slots) 3 true)) :=
      ⟨fun k => if h : k < 2 * ys.length then (hall k h).choose else (0, inf0), fun k hk => by simp only [hk, dif_pos]; exact (hall k hk).choose_spec⟩
    obtain ⟨g, hg⟩ := hpick
    have hlenr : (canRows M L).length = 1 + 2 * ys.length := by rw [hrows]; simp [rowsI_length, hLlen]; omega
    refine ⟨fun k => if k = 0 then b else (g (k - 1)).1, fun k => if k = 0 then inf0 else (g (k - 1)).2, fun k hk => ?_, ?_, fun k r hr => ?_⟩
    · by_cases h0 : k = 0
      · subst h0; exact ⟨by simp; omega, i0, hi0, hat0⟩
      · simp only [h0, if_false]
        exact (hg (k - 1) (by omega)).1
    · rw [hcv]
      refine hV0 _ M ?_
      simp [picR, hlenr]
    · have hid : ∀ k, k < 2 * ys.length → picR M (canRows M L).length ρ1 (fun k => if k = 0 then inf0 else (g (k - 1)).2) (M + 1 + k) = some (g k).2 := fun k hk => by
        unfold picR
        rw [if_neg (by omega), if_pos (by omega)]
        simp only [show ¬ M + 1 + k - M = 0 by omega, if_false, show M + 1 + k - M - 1 = k by omega]
      generalize picR M (canRows M L).length ρ1 (fun k => if k = 0 then inf0 else (g (k - 1)).2) = ρc at hid
      rw [hrows] at hr
      cases k with
      | zero =>
        simp at hr; subst hr
        simp only [if_true]
        refine ⟨by rw [hat0]; exact hlive.lt, fun j x hj => ?_⟩
        rw [hat0]
        have hjl : j < (cellsL (canL M 0 L)).length := (List.getElem?_eq_some_iff.1 hj).1
        rw [cellsL_length, canL_length, hLlen] at hjl
        have hq : j / 10 < ys.length := by omega
        have hy := List.getElem?_eq_getElem hq
        have hym := List.mem_of_getElem? hy
        generalize ys[j / 10]'hq = y at hy hym
        have hLy : L[j / 10]? = some y.f := by rw [← hL]; simp [hy]
        have hcan := canL_get M L 0 (j / 10)
        rw [hLy] at hcan
        have ej : j = j / 10 * 10 + j % 10 := by omega
        have hr10 : j % 10 < 10 := Nat.mod_lt _ (by decide)
        rw [Option.map_some] at hcan
        have hx1 := cellsL_cell _ _ _ _ hcan hr10
        have hx2 := cellsL_cell _ _ _ _ hy hr10
        rw [← ej] at hx1 hx2
        rw [hj] at hx1
        have h1 := hg (2 * (j / 10)) (by omega)
        have h2 := hg (2 * (j / 10) + 1) (by omega)
        rw [show 2 * (j / 10) / 2 = j / 10 by omega, show 2 * (j / 10) % 2 = 0 by omega] at h1
        rw [show (2 * (j / 10) + 1) / 2 = j / 10 by omega, show (2 * (j / 10) + 1) % 2 = 1 by omega] at h2
        have h1 := (h1.2 y hy).1
        have h2 := (h2.2 y hy).1
        simp only [if_true, Nat.add_zero] at h1
        simp only [show ¬ (1 : Nat) = 0 by decide, if_false] at h2
        have hp1 := hid (2 * (j / 10)) (by omega)
        have hp2 := hid (2 * (j / 10) + 1) (by omega)
        generalize j % 10 = r at hr10 ej hx1 hx2
        have plainCase : ∀ q, (cellsL ys)[j]? = some q → Ab.plain q = true → x = q → ∃ v', w.cell? (i0.at_.add j) = some v' ∧ V ρc x v' := fun q hq1 hq2 hq3 => by
          obtain ⟨z, hz1, hz2⟩ := hlive.cellAt hq1
          refine ⟨z, hz1, ?_⟩
          rw [hz2.plain_eq hq2, hq3]
          exact .same _ hq2
        have hcase : r = 0 ∨ r = 1 ∨ r = 2 ∨ r = 3 ∨ r = 4 ∨ r = 5 ∨ r = 6 ∨ r = 7 ∨ r = 8 ∨ r = 9 := by omega
        rcases hcase with rfl | rfl | rfl | rfl | rfl | rfl | rfl | rfl | rfl | rfl
        · exact plainCase _ hx2 rfl (by simpa [Lf.cells] using hx1)
        · have hx1 : x = cS (M + 1 + 2 * (0 + j / 10)) y.f.shapes := by simpa [Lf.cells] using hx1
          obtain ⟨z, hz1, hz2⟩ := hlive.cellAt hx2
          refine ⟨z, hz1, ?_⟩
          rw [hx1, Nat.zero_add]
          exact h1 z (by rw [← ej]; exact hz1) ρc _ hp1
        · have hx1 : x = cS (M + 2 + 2 * (0 + j / 10)) y.f.slots := by simpa [Lf.cells] using hx1
          obtain ⟨z, hz1, hz2⟩ := hlive.cellAt hx2
          refine ⟨z, hz1, ?_⟩
          rw [hx1, Nat.zero_add, show M + 2 + 2 * (j / 10) = M + 1 + (2 * (j / 10) + 1) by omega]
          exact h2 z (by rw [show j / 10 * 10 + 1 + 1 = j by omega]; exact hz1) ρc _ hp2
        all_goals exact plainCase _ hx2 rfl (by simpa [Lf.cells] using hx1)
      | succ k =>
        simp only [List.getElem?_cons_succ] at hr
        have hkl : k < 2 * ys.length := by have := (List.getElem?_eq_some_iff.1 hr).1; rw [rowsI_length, hLlen] at this; exact this
        obtain ⟨x, h1, rfl⟩ := rowsI_get L k r hr
        have hq : k / 2 < ys.length := by omega
        have hy := List.getElem?_eq_getElem hq
        generalize ys[k / 2]'hq = y at hy
        have : x = y.f := by rw [← hL] at h1; simp [hy] at h1; exact h1.symm
        subst this
        simp only [show ¬ k + 1 = 0 by omega, if_false, Nat.add_sub_cancel]
        exact ((hg k hkl).2 y hy).2 ρc
end Go.Proofs.YtbkbdnlfkahaaaaGreatDoor.code
/- What a known call tells, as forms. -/
set_option linter.unusedVariables false
set_option linter.unusedSimpArgs false
set_option maxRecDepth 100000
namespace Go.Proofs.YtbkbdnlfkahaaaaGreatDoor.code
open Go.Ab

noncomputable def iI (k : Nat) : Int := bif Nat.beq k 0 then .negSucc 0 else .ofNat (k - 1)
noncomputable def mkF (op pre mp code dg w vx l : Nat) (sh sl : List Nat) : Fm := ⟨.ofNat op, .ofNat pre, .ofNat mp, .ofNat code, iI dg, iI w, .ofNat l, Nat.beq vx 1, sh.map .ofNat, sl.map .ofNat⟩

noncomputable def isInt (v : Value) (n : Int) : Bool := match v with | .int .i64 m => beqV 8 (.int .i64 m) (.int .i64 n) | _ => false
theorem isInt_eq {v : Value} {n : Int} (h : isInt v n = true) : v = .int .i64 n := by
  unfold isInt at h
  split at h
  · exact beqV_eq 8 _ _ h
  · cases h
noncomputable def isBool (v : Value) (b : Bool) : Bool := match v with | .bool c => (bif c then b else !b) | _ => false
theorem isBool_eq {v : Value} {b : Bool} (h : isBool v b = true) : v = .bool b := by
  unfold isBool at h
  split at h
  · rename_i c
    cases c <;> cases b <;> first | rfl | cases h
  · cases h
noncomputable def capB (n c : Nat) : Bool := Nat.beq c (UNK + 1) || (Nat.ble n c && Nat.ble (c + 1) UNK)
theorem capB_ok {n c : Nat} (h : capB n c = true) : CapOk n c := by
  simp only [capB, Bool.or_eq_true, Bool.and_eq_true, nbeq, decide_eq_true_eq, Nat.ble_eq] at h
  rcases h with h | ⟨h1, h2⟩
  · exact .inl h
  · exact .inr ⟨h1, h2⟩
noncomputable def chkS (G : Nat) (rs : List Row) (v : Value) (l : List Int) : Bool := match l with
  | [] => beqV 8 v (.slice none 0 0)
  | _ :: _ => match v with
    | .slice (some a) n c => Nat.ble G a.block && (Nat.beq a.off 0 && (noSpot a && (Nat.beq n l.length && (Nat.ble n 1000 && (capB n c && (match rs[a.block - G]? with | some r => beqL (beqV 8) r.c (ints l) | none => false))))))
    | _ => false
noncomputable def chkF (G : Nat) (rs : List Row) : List Value → List Fm → Bool
  | [], [] => true
  | a0 :: a1 :: a2 :: a3 :: a4 :: a5 :: a6 :: a7 :: a8 :: a9 :: cs, x :: xs => isInt a0 x.op && (chkS G rs a1 x.shapes && (chkS G rs a2 x.slots && (isInt a3 x.pre && (isInt a4 x.map && (isInt a5 x.code && (isInt a6 x.digit && (isInt a7 x.w && (isBool a8 x.vex && (isInt a9 x.l && chkF G rs cs xs)))))))))
  | _, _ => false
noncomputable def chkU (G : Nat) (rs : List Row) (u : Value) (L : List Fm) : Bool := match u with
  | .slice (some a) n c => Nat.ble G a.block && (Nat.beq a.off 0 && (noSpot a && (Nat.beq n L.length && (Nat.ble n 1000 && (Nat.ble 1 n && (Nat.beq c (UNK + 10) && (match rs[a.block - G]? with | some r => Nat.beq r.e T_api_Form && (!r.ro && chkF G rs r.c L) | none => false)))))))
  | _ => false

theorem noSpot_eq {a : Addr} (h : noSpot a = true) : a.spot = none := by
  unfold noSpot at h
  split at h
  · assumption
  · cases h

section
variable {τ : Nat → Nat} {G : Nat} {rs : List Row} {H : Heap}
theorem shM_up {b : Nat} (h : G ≤ b) : shM τ G H.next b = H.next + (b - G) := by
  unfold shM; rw [blt_dec]; simp [show ¬ b < G by omega]
theorem shW_ints (sh : Nat → Nat) (l : List Int) : (ints l).map (shW sh 6) = ints l := by
  unfold ints
  rw [List.map_map]
  exact List.map_congr_left fun x _ => shW_plain sh 6 _ rfl
theorem chkS_ok {v : Value} {l : List Int} (h : chkS G rs v l = true) : l.length ≤ 1000 ∧ IsSl (pushW (shM τ G H.next) rs H) (shW (shM τ G H.next) 6 v) l.length (ints l) ∧ SlF H.next (shW (shM τ G H.next) 6 v) l := by
  cases l with
  | nil =>
    have := beqV_eq 8 _ _ (show beqV 8 v (.slice none 0 0) = true from h)
    subst this
    exact ⟨by simp, ⟨none, 0, rfl, fun h => by simp at h⟩, .inl ⟨rfl, rfl⟩⟩
  | cons x l =>
    unfold chkS at h
    simp only at h
    split at h
    · rename_i a n cap
      simp only [Bool.and_eq_true, nbeq, decide_eq_true_eq, Nat.ble_eq] at h
      obtain ⟨h1, h2, h3, h4, h5, hcp, h6⟩ := h
      split at h6
      · rename_i r hr
        have h6 := beqL_eq (beqV_eq 8) _ _ h6
        obtain ⟨ab, ao, asp⟩ := a
        replace h3 := noSpot_eq h3
        simp only at h1 h2 h3 hr
        subst h2; subst h3; subst h4
        have hk := (List.getElem?_eq_some_iff.1 hr).1
        have e1 : shW (shM τ G H.next) 6 (.slice (some ⟨ab, 0, none⟩) (x :: l).length cap) = .slice (some ⟨H.next + (ab - G), 0, none⟩) (x :: l).length cap := by
          show Value.slice (some ⟨shM τ G H.next ab, 0, none⟩) _ _ = _
          rw [shM_up h1]
        rw [e1]
        refine ⟨h5, ⟨_, _, rfl, fun _ => ⟨H.next + (ab - G), r.e, r.ro, rfl, ?_⟩⟩, .inr ⟨by simp, _, _, rfl, by omega, capB_ok hcp⟩⟩
        rw [pushW_get, if_pos ⟨by omega, by omega⟩, show H.next + (ab - G) - H.next = ab - G by omega, hr]
        show some (Blk.cells (r.c.map (shW (shM τ G H.next) 6)) r.e r.ro) = _
        rw [h6, shW_ints]
      · cases h6
    · cases h
theorem chkF_ok : ∀ (cs : List Value) (L : List Fm), chkF G rs cs L = true → ∃ xs : List Lf, xs.map (·.f) = L ∧ cs.map (shW (shM τ G H.next) 6) = cellsL xs ∧ ∀ x ∈ xs, x.At (pushW (shM τ G H.next) rs H) ∧ x.Fr H.next
  | [], [], _ => ⟨[], rfl, rfl, fun x h => by cases h⟩
  | a0 :: a1 :: a2 :: a3 :: a4 :: a5 :: a6 :: a7 :: a8 :: a9 :: cs, x :: L, h => by
    simp only [chkF, Bool.and_eq_true] at h
    obtain ⟨h0, h1, h2, h3, h4, h5, h6, h7, h8, h9, hr⟩ := h
    obtain ⟨xs, e1, e2, e3⟩ := chkF_ok cs L hr
    have i0 := isInt_eq h0; have i3 := isInt_eq h3; have i4 := isInt_eq h4; have i5 := isInt_eq h5; have i6 := isInt_eq h6; have i7 := isInt_eq h7; have i8 := isBool_eq h8; have i9 := isInt_eq h9
    subst i0 i3 i4 i5 i6 i7 i8 i9
    obtain ⟨s1, s2, s3⟩ := chkS_ok (τ := τ) (H := H) h1
    obtain ⟨t1, t2, t3⟩ := chkS_ok (τ := τ) (H := H) h2
    refine ⟨⟨x, shW (shM τ G H.next) 6 a1, shW (shM τ G H.next) 6 a2⟩ :: xs, by simp [e1], ?_, fun y hy => ?_⟩
    rotate_left
    · rcases List.mem_cons.1 hy with rfl | hy
      · exact ⟨⟨s1, t1, s2, t2⟩, s3, t3⟩
      · exact e3 y hy
    · simp only [List.map_cons, e2, cellsL, List.flatMap_cons, Lf.cells, List.cons_append, List.nil_append]
      rfl
theorem chkU_ok {u : Value} {L : List Fm} (h : chkU G rs u L = true) : ∃ xs : List Lf, xs.map (·.f) = L ∧ Acc H (pushW (shM τ G H.next) rs H) (shW (shM τ G H.next) 6 u) xs ∧ xs.length ≤ 1000 ∧ ∀ x ∈ xs, x.Fr H.next := by
  unfold chkU at h
  split at h
  · rename_i a n cap
    simp only [Bool.and_eq_true, nbeq, decide_eq_true_eq, Nat.ble_eq] at h
    obtain ⟨h1, h2, h3, h4, h5, h7, h8, h6⟩ := h
    split at h6
    · rename_i r hr
      simp only [Bool.and_eq_true, nbeq, decide_eq_true_eq, Bool.not_eq_true'] at h6
      obtain ⟨h9, h10, h6⟩ := h6
      subst h8
      obtain ⟨xs, e1, e2, e3⟩ := chkF_ok (τ := τ) (H := H) _ _ h6
      obtain ⟨ab, ao, asp⟩ := a
      replace h3 := noSpot_eq h3
      simp only at h1 h2 h3 hr
      subst h2; subst h3
      have hl : n = xs.length := by rw [h4, ← e1]; simp
      subst hl
      have hk := (List.getElem?_eq_some_iff.1 hr).1
      have e1' : shW (shM τ G H.next) 6 (.slice (some ⟨ab, 0, none⟩) xs.length (UNK + 10)) = .slice (some ⟨H.next + (ab - G), 0, none⟩) xs.length (UNK + 10) := by
        show Value.slice (some ⟨shM τ G H.next ab, 0, none⟩) _ _ = _
        rw [shM_up h1]
      rw [e1']
      refine ⟨xs, e1, .inr ⟨_, rfl, by omega, ?_, fun h => ?_, fun x hx => (e3 x hx).1⟩, h5, fun x hx => (e3 x hx).2⟩
      · rw [pushW_get, if_pos ⟨by omega, by omega⟩, show H.next + (ab - G) - H.next = ab - G by omega, hr]
        show some (Blk.cells (r.c.map (shW (shM τ G H.next) 6)) r.e r.ro) = _
        rw [e2, h9, h10]
      · rw [h] at h7; simp at h7
    · cases h6
  · cases h
end

theorem pushW_ext {sh : Nat → Nat} (rs : List Row) (H : Heap) : Ext H (pushW sh rs H) := ⟨by rw [pushW_next]; omega, fun id hid => by rw [pushW_get, if_neg (by omega)]⟩
theorem pushW_wf {sh : Nat → Nat} : ∀ (rs : List Row) (H : Heap), H.Wf → (pushW sh rs H).Wf
  | [], H, h => h
  | r :: rs, H, h => pushW_wf rs _ (h.push _)

def TabT (tabs : List Tab) (H : Heap) : Prop := tabsIn tabs H = true
theorem tabT_ext {tabs : List Tab} (H H' : Heap) (hw : H.Wf) (h : TabT tabs H) (hx : Ext H H') : TabT tabs H' := by
  unfold TabT tabsIn at *
  rw [List.all_eq_true] at *
  intro t ht
  have h1 := h t ht
  cases hg : H.get t.id with
  | none => rw [hg] at h1; cases h1
  | some b => rw [hx.get _ (hw.lt hg)]; exact h1

theorem tells_of_sum {tabs : List Tab} (ht : tabsOk tabs = true) (htab : ∀ t ∈ tabs, t.id < prog.globals.size) {s : SumI} (hs : SumIOk prog tabs s) (ha : s.args = []) (hi : s.ins = []) {L : List Fm} (hc : chkU prog.globals.size s.rs s.u L = true) : Tells (TabT tabs) s.f L := by
  intro H hH hw
  have hd := hs.does ht (args := []) (H := H) (τ := fun n => n) (fun _ _ => rfl) htab hH (by rw [hi]; rfl) (by rw [ha]; rfl)
  rw [hi] at hd
  obtain ⟨xs, h1, h2, h3, h4⟩ := chkU_ok (τ := fun n => n) (H := H) hc
  exact ⟨_, _, .inl ⟨hs.1, hd⟩, by rw [pushW_next]; exact Nat.le_add_right _ _, pushW_wf _ _ hw, pushW_ext _ _, xs, h1, h2, h3, h4⟩

noncomputable def tellChk (G : Nat) (f : FuncId) (L : List Fm) : List SumI → Bool
  | s :: _ => Nat.beq s.f f && (s.args.isEmpty && (s.ins.isEmpty && chkU G s.rs s.u L))
  | [] => false
theorem tells_of_list {tabs : List Tab} (ht : tabsOk tabs = true) (htab : ∀ t ∈ tabs, t.id < prog.globals.size) {l : List SumI} (hl : ∀ s ∈ l, SumIOk prog tabs s) {f : FuncId} {L : List Fm} (h : tellChk prog.globals.size f L l = true) : Tells (TabT tabs) f L := by
  cases l with
  | nil => cases h
  | cons s l =>
    simp only [tellChk, Bool.and_eq_true, nbeq, decide_eq_true_eq, List.isEmpty_iff] at h
    obtain ⟨h1, h2, h3, h4⟩ := h
    rw [← h1]
    exact tells_of_sum ht htab (hl s (List.mem_cons_self ..)) h2 h3 h4

theorem forms_does {tabs : List Tab} (ht : tabsOk tabs = true) (htab : ∀ t ∈ tabs, t.id < prog.globals.size) {f : FuncId} {args : List Value} (he : entered prog f = true) {L : List Fm} (hpl : beqL (mtV (sigmaT (fun n => n) prog.globals.size) 6) args args = true)
    (hq : ∀ H, H.next = prog.globals.size → TabT tabs H → CallQ prog f args H fun u H' => ∃ ys : List Lf, ys.map (·.f) = L ∧ Acc H H' u ys ∧ ∀ y ∈ ys, y.Fr H.next) (hwf : (tabHeap prog.globals.size tabs).Wf) (htt : TabT tabs (tabHeap prog.globals.size tabs)) {H : Heap} (hH : tabsIn tabs H = true) :
    Does prog f args H (.ret (shW (shM (fun n => n) prog.globals.size H.next) 6 (canV prog.globals.size L))) (pushW (shM (fun n => n) prog.globals.size H.next) (canRows prog.globals.size L) H) := by
  have hn : (tabHeap prog.globals.size tabs).next = prog.globals.size := rfl
  obtain ⟨v, H1, hc, _, _, ys, hy1, hy2, hy3⟩ := hq _ hn htt hwf
  have hd := hc.does he
  subst hy1
  have hp := pic_forms hn hy2 hy3
  refine pic_does (B := tabHeap prog.globals.size tabs) hd (Nat.le_refl _) (fun _ _ => rfl) hp (canV_ok _ _) (canRows_ok _ _) H (fun id b hb => ?_) hpl
  have hg := tabsIn_get hH id b hb
  obtain ⟨t, ht1, rfl, rfl⟩ := tabHeap_get hb
  refine ⟨t.c, t.e, t.c, t.e, true, rfl, hg, rfl, fun j x y hx hy => ?_⟩
  rw [hx] at hy
  cases hy
  exact Seen.plain (List.all_eq_true.1 (List.all_eq_true.1 ht t ht1) x (List.mem_of_getElem? hx))
end Go.Proofs.YtbkbdnlfkahaaaaGreatDoor.code
/- table.Rows, table.Of, table.Match. -/
set_option linter.unusedVariables false
set_option linter.unusedSimpArgs false
set_option maxRecDepth 100000
namespace Go.Proofs.YtbkbdnlfkahaaaaGreatDoor.code
open Go.Ab

theorem q_table_Rows_1 (x : Lf) (H : Heap) (hx : x.At H) : CallQ prog f_table_Rows_1 [.agg x.cells.toArray] H fun u H' => u = .bool true ∧ ∃ m, H' = H.up m := by
  refine in_table_Rows_1 fun hw => ?_
  simp only [pc_table_Rows_1, sxA, sxB, Nat.reduceBEq, Nat.reduceEqDiff, reduceCtorEq, mxA, mxB, Nat.reduceAdd, reduceIte, Nat.reduceLeDiff, splice, ret_table_Rows_1]
  exact .ext hw ((Ext.refl H).push _) ⟨rfl, _, rfl⟩
theorem q_table_Of_1 (x : Lf) (op : Int) (b : Nat) (H : Heap) {e : TypeId} {ro : Bool} (hb : H.get b = some (.cells [.int .i64 op] e ro)) (hx : x.At H) : CallQ prog f_table_Of_1 [.agg x.cells.toArray, .pointer (some ⟨b, 0, none⟩)] H fun u H' => u = .bool (x.f.op == op) ∧ ∃ m, H' = H.up m := by
  refine in_table_Of_1 fun hw => ?_
  have hbl := hw.lt hb
  have hne : ¬ b = H.next := by omega
  simp only [Lf.cells, pc_table_Of_1, sxA, sxB, Nat.reduceBEq, Nat.reduceEqDiff, reduceCtorEq, mxA, mxB, Nat.reduceAdd, reduceIte, Nat.reduceLeDiff, splice, hne, hb, ret_table_Of_1]
  exact .ext hw ((Ext.refl H).push _) ⟨rfl, _, rfl⟩
section
variable {T : Heap → Prop} (hT : ∀ H H', H.Wf → T H → Ext H H' → T H') (LL : FuncId → List Fm) (hL : ∀ x ∈ lis, Tells T x.2.2 (LL x.2.2))
include hT hL
def Told (H H' : Heap) (u : Value) (L : List Fm) : Prop := Ext H H' ∧ ∃ ys : List Lf, ys.map (·.f) = L ∧ Acc H H' u ys ∧ ys.length ≤ 6000 ∧ ∀ y ∈ ys, y.Fr H.next

theorem q_table_Rows (H : Heap) (ht : T H) : CallQ prog f_table_Rows [] H fun u H' => Told H H' u (colF LL 1 322 (fun _ => true) lis) := by
  refine in_table_Rows fun hw => ?_
  simp only [pc_table_Rows, sxA, sxB, Nat.reduceBEq, Nat.reduceEqDiff, reduceCtorEq, mxA, mxB, Nat.reduceAdd, reduceIte, Nat.reduceLeDiff, splice]
  refine (q_table_collect hT LL hL 1 322 _ (fun _ => true) H ⟨f_table_Rows_1, [], rfl, fun x H' hx ha => q_table_Rows_1 x H' ha⟩ ht).thenW ?_
  rintro u H' hn hw' h
  simp only [sxA, sxB, Nat.reduceBEq, Nat.reduceEqDiff, reduceCtorEq, mxA, mxB, Nat.reduceAdd, reduceIte, Nat.reduceLeDiff, splice, ret_table_Rows]
  exact .mk hn h

theorem q_table_Of (op : Int) (H : Heap) (ht : T H) : CallQ prog f_table_Of [.int .i64 op] H fun u H' => Told H H' u (colF LL op op (fun f => f.op == op) lis) := by
  refine in_table_Of fun hw => ?_
  simp only [pc_table_Of, sxA, sxB, Nat.reduceBEq, Nat.reduceEqDiff, reduceCtorEq, mxA, mxB, Nat.reduceAdd, reduceIte, Nat.reduceLeDiff, splice, Zdt]
  have hx0 : Ext H (H.push (.cells [.int .i64 op] 3 false)) := (Ext.refl H).push _
  have hg0 : (H.push (.cells [.int .i64 op] 3 false)).get H.next = some (.cells [.int .i64 op] 3 false) := by rw [Heap.get_push, if_pos rfl]
  have hw0 := hw.push (.cells [.int .i64 op] 3 false)
  generalize H.push (.cells [.int .i64 op] 3 false) = H1 at hx0 hg0 hw0
  refine (q_table_collect hT LL hL op op (.func (.func f_table_Of_1) #[] [.pointer (some ⟨H.next, 0, none⟩)].toArray) (fun f => f.op == op) H1 ⟨f_table_Of_1, [.pointer (some ⟨H.next, 0, none⟩)], rfl, fun x H' hx ha => q_table_Of_1 x op H.next H' (e := 3) (ro := false) (by rw [hx.get _ (hw0.lt hg0)]; exact hg0) ha⟩ (hT _ _ hw ht hx0)).thenW ?_
  rintro u H' hn hw' ⟨hx, ys, h1, h2, h3, h4⟩
  simp only [sxA, sxB, Nat.reduceBEq, Nat.reduceEqDiff, reduceCtorEq, mxA, mxB, Nat.reduceAdd, reduceIte, Nat.reduceLeDiff, splice, ret_table_Of]
  exact .mk (hx0.trans hx).next ⟨hx0.trans hx, ys, h1, h2.mono hx0.next, h3, fun y hy => (h4 y hy).mono hx0.next⟩

end

/-! ### As known calls -/
theorem colF_all (LL : FuncId → List Fm) (p : Fm → Bool) : colF LL 1 322 p lis = (colF LL 1 322 (fun _ => true) lis).filter p := by
  simp [colF, lis]
end Go.Proofs.YtbkbdnlfkahaaaaGreatDoor.code
/- table.Rows, table.Of and table.Match as known calls of closed runs. -/
set_option linter.unusedVariables false
set_option linter.unusedSimpArgs false
set_option maxRecDepth 100000
namespace Go.Proofs.YtbkbdnlfkahaaaaGreatDoor.code
open Go.Ab

noncomputable def picKn (tabs : List Tab) (L : List Fm) (H : Heap) : Option (Value × Heap) :=
  bif tabsIn tabs H then some (shW (shM (fun n => n) prog.globals.size H.next) 6 (canV prog.globals.size L), pushW (shM (fun n => n) prog.globals.size H.next) (canRows prog.globals.size L) H) else none

noncomputable def tknown (tabs : List Tab) (LL : FuncId → List Fm) : CallF := fun f args H =>
  bif Nat.beq f f_table_Rows then (match args with | [] => picKn tabs (colF LL 1 322 (fun _ => true) lis) H | _ => none)
  else bif Nat.beq f f_table_Of then (match args with | [.int .i64 op] => picKn tabs (colF LL op op (fun x => x.op == op) lis) H | _ => none)
  else none

theorem mt_int (σ : Nat → Option Nat) (f : Nat) (k : IntKind) (n : Int) : mtV σ (f + 1) (.int k n) (.int k n) = true := by simp [mtV, plain, beqV]
theorem mt_bool (σ : Nat → Option Nat) (f : Nat) (b : Bool) : mtV σ (f + 1) (.bool b) (.bool b) = true := by simp [mtV, plain, beqV]
theorem picKn_ok {tabs : List Tab} (ht : tabsOk tabs = true) (htab : ∀ t ∈ tabs, t.id < prog.globals.size) (hwf : (tabHeap prog.globals.size tabs).Wf) (htt : TabT tabs (tabHeap prog.globals.size tabs)) {f : FuncId} {args : List Value} {L : List Fm} {H : Heap} {v : Value} {H' : Heap} (he : entered prog f = true) (hpl : beqL (mtV (sigmaT (fun n => n) prog.globals.size) 6) args args = true)
    (hq : ∀ H, TabT tabs H → CallQ prog f args H fun u H' => Told H H' u L) (hp : picKn tabs L H = some (v, H')) : Callable prog f args H v H' := by
  unfold picKn at hp
  cases htb : tabsIn tabs H with
  | false => rw [htb] at hp; cases hp
  | true =>
    rw [htb] at hp
    simp only [cond_true, Option.some.injEq, Prod.mk.injEq] at hp
    obtain ⟨rfl, rfl⟩ := hp
    exact .inl ⟨he, forms_does ht htab he hpl (fun H hn hT => (hq H hT).mono fun u H' ⟨_, ys, h1, h2, _, h4⟩ => ⟨ys, h1, h2, h4⟩) hwf htt htb⟩

theorem tknown_ok {tabs : List Tab} (ht : tabsOk tabs = true) (htab : ∀ t ∈ tabs, t.id < prog.globals.size) (hwf : (tabHeap prog.globals.size tabs).Wf) (htt : TabT tabs (tabHeap prog.globals.size tabs)) (LL : FuncId → List Fm) (hL : ∀ x ∈ lis, Tells (TabT tabs) x.2.2 (LL x.2.2))
    (e1 : entered prog f_table_Rows = true) (e2 : entered prog f_table_Of = true) : CallOk prog (tknown tabs LL) := by
  intro f args H v H' h
  unfold tknown at h
  cases b1 : Nat.beq f f_table_Rows with
  | true =>
    rw [b1, cond_true] at h
    have := Nat.eq_of_beq_eq_true b1
    subst this
    split at h
    · exact picKn_ok ht htab hwf htt e1 rfl (fun H hT => q_table_Rows tabT_ext LL hL H hT) h
    · cases h
  | false =>
    rw [b1, cond_false] at h
    cases b2 : Nat.beq f f_table_Of with
    | true =>
      rw [b2, cond_true] at h
      have := Nat.eq_of_beq_eq_true b2
      subst this
      split at h
      · exact picKn_ok ht htab hwf htt e2 (by simp only [beqL, mt_int, Bool.and_self]) (fun H hT => q_table_Of tabT_ext LL hL _ H hT) h
      · cases h
    | false =>
      rw [b2, cond_false] at h
      cases h
theorem closed_q {tabs : List Tab} (ht : tabsOk tabs = true) {kn : CallF} (hk : CallOk prog kn) {f : FuncId} (he : entered prog f = true) {F G k : Nat} (h : isTrue ((run prog kn F G k).fn f [] (tabHeap prog.globals.size tabs)) = true) (H : Heap) (hT : TabT tabs H) : CallQ prog f [] H fun u H' => u = .bool true ∧ H' = H := by
  obtain ⟨H1, hr⟩ := isTrue_some h
  have hd := ((run_sound hk k).fn f [] _ _ H1 hr).does he
  refine callQ_of_does he (does_view (args := []) (args2 := []) (τ := fun n => n) hd rfl (Nat.le_refl _) (fun _ _ => rfl) (fun id b hb => ?_) rfl fun j x y hx => by simp at hx)
  have hg := tabsIn_get hT id b hb
  obtain ⟨t, ht1, rfl, rfl⟩ := tabHeap_get hb
  refine ⟨t.c, t.e, t.c, t.e, true, rfl, hg, rfl, fun j x y hx hy => ?_⟩
  rw [hx] at hy
  cases hy
  exact Seen.plain (List.all_eq_true.1 (List.all_eq_true.1 ht t ht1) x (List.mem_of_getElem? hx))
end Go.Proofs.YtbkbdnlfkahaaaaGreatDoor.code
