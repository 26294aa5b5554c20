/- Plan: the passes. -/
import Derived.Test.YtgoafcanccbflaaL6Lay
set_option linter.unusedVariables false
set_option linter.unusedSimpArgs false
set_option maxRecDepth 100000
namespace Go.Proofs.Ytgoafcanccbflaa.lay
open Go.Ab

/-- Is a branch's distance too far for so many bits? -/
def far (p : Pc) (at_ : List Int) (i : Nat) (bits : Nat) : Bool := p.kind == 2 && !(fits (at_.getD p.target.toNat 0 + p.off - at_.getD (i + 1) 0) bits)

/-- One pass: which are near behind it. -/
def turned (l : List Pc) (nr : List Bool) (o : Int) (i : Nat) : Bool := nr.getD i false || (match l[i]? with | some p => far p (posL l nr o) i 8 | none => false)
def stepL (l : List Pc) (nr : List Bool) (o : Int) : List Bool := (List.range l.length).map (turned l nr o)
theorem stepL_length (l : List Pc) (nr : List Bool) (o : Int) : (stepL l nr o).length = l.length := by simp [stepL]
theorem stepL_get (l : List Pc) (nr : List Bool) (o : Int) {i : Nat} (h : i < l.length) : (stepL l nr o).getD i false = turned l nr o i := by
  simp [stepL, List.getD, h]

/-- How many are not near. -/
def shorts (nr : List Bool) : Nat := nr.countP (· == false)

/-- What stands in memory while the passes go on. -/
structure S9 (H H' : Heap) (l : List Pc) (c4 pb ab nb sb : Nat) (old : List Int) (nr : List Bool) (ps : Int) : Prop where
  ext : Ext H H'
  g4 : H'.get c4 = some (.cells [.slice none 0 0, .slice none 0 0, .int .i64 0] 27 false)
  gp : H'.get pb = some (.cells (l.map partV) 49 false)
  ga : H'.get ab = some (.cells (ints old) 3 false)
  gn : H'.get nb = some (.cells (bools nr) 4 false)
  gs : H'.get sb = some (.cells [.slice (some ⟨ab, 0, none⟩) (l.length + 1) (l.length + 1), .slice (some ⟨nb, 0, none⟩) l.length l.length, .int .i64 ps] 27 false)
  new : H.next ≤ c4 ∧ c4 < pb ∧ pb < ab ∧ ab < nb ∧ nb < sb ∧ sb < H'.next
  lold : old.length = l.length + 1
  lnr : nr.length = l.length

section
variable {H H' : Heap} {l : List Pc} {c4 pb ab nb sb : Nat} {old : List Int} {nr : List Bool} {ps : Int}
theorem S9.grow (s : S9 H H' l c4 pb ab nb sb old nr ps) {H2 : Heap} (he : Ext H' H2) : S9 H H2 l c4 pb ab nb sb old nr ps := by
  have n := s.new
  have hx := he.next
  exact ⟨s.ext.trans he, by rw [he.get _ (by omega)]; exact s.g4, by rw [he.get _ (by omega)]; exact s.gp, by rw [he.get _ (by omega)]; exact s.ga, by rw [he.get _ (by omega)]; exact s.gn, by rw [he.get _ (by omega)]; exact s.gs, by omega, s.lold, s.lnr⟩
theorem S9.setA (s : S9 H H' l c4 pb ab nb sb old nr ps) {new : List Int} (hl : new.length = l.length + 1) : S9 H (H'.set ab (.cells (ints new) 3 false)) l c4 pb ab nb sb new nr ps := by
  have n := s.new
  exact ⟨s.ext.set (by omega) _, by rw [Heap.get_set, if_neg (by omega)]; exact s.g4, by rw [Heap.get_set, if_neg (by omega)]; exact s.gp, by rw [Heap.get_set, if_pos rfl], by rw [Heap.get_set, if_neg (by omega)]; exact s.gn, by rw [Heap.get_set, if_neg (by omega)]; exact s.gs, by simpa using n, hl, s.lnr⟩
theorem S9.setN (s : S9 H H' l c4 pb ab nb sb old nr ps) {new : List Bool} (hl : new.length = l.length) : S9 H (H'.set nb (.cells (bools new) 4 false)) l c4 pb ab nb sb old new ps := by
  have n := s.new
  exact ⟨s.ext.set (by omega) _, by rw [Heap.get_set, if_neg (by omega)]; exact s.g4, by rw [Heap.get_set, if_neg (by omega)]; exact s.gp, by rw [Heap.get_set, if_neg (by omega)]; exact s.ga, by rw [Heap.get_set, if_pos rfl], by rw [Heap.get_set, if_neg (by omega)]; exact s.gs, by simpa using n, s.lold, hl⟩
theorem S9.setS (s : S9 H H' l c4 pb ab nb sb old nr ps) (new : Int) : S9 H (H'.set sb (.cells [.slice (some ⟨ab, 0, none⟩) (l.length + 1) (l.length + 1), .slice (some ⟨nb, 0, none⟩) l.length l.length, .int .i64 new] 27 false)) l c4 pb ab nb sb old nr new := by
  have n := s.new
  exact ⟨s.ext.set (by omega) _, by rw [Heap.get_set, if_neg (by omega)]; exact s.g4, by rw [Heap.get_set, if_neg (by omega)]; exact s.gp, by rw [Heap.get_set, if_neg (by omega)]; exact s.ga, by rw [Heap.get_set, if_neg (by omega)]; exact s.gn, by rw [Heap.get_set, if_pos rfl], by simpa using n, s.lold, s.lnr⟩
end

theorem splice_bool (st nr : List Bool) (i : Nat) (hi : i < nr.length) (he : st.length = nr.length) (ht : st.getD i false = true) : splice (bools (st.take i ++ nr.drop i)) (0 + i) [.bool true] = bools (st.take (i + 1) ++ nr.drop (i + 1)) := by
  have h1 : (st.take i).length = i := by simp; omega
  have hg : st[i]'(by omega) = true := by rw [← ht]; simp [List.getD, List.getElem?_eq_getElem (by omega : i < st.length)]
  unfold splice bools
  rw [Nat.zero_add, List.map_append, List.map_append, List.take_append_of_le_length (by simp; omega), List.take_of_length_le (by simp; omega)]
  rw [List.drop_append, List.drop_of_length_le (by simp; omega), List.take_succ_eq_append_getElem (by omega : i < st.length), List.map_append, List.append_assoc, hg]
  congr 1
  simp only [List.map_cons, List.map_nil, List.length_map, h1, List.nil_append, List.length_cons, List.length_nil, Nat.zero_add]
  rw [show i + 1 - i = 1 by omega, ← List.map_drop, List.drop_drop]
theorem same_bool (st nr : List Bool) (i : Nat) (hi : i < nr.length) (he : st.length = nr.length) (ht : st.getD i false = nr.getD i false) : st.take i ++ nr.drop i = st.take (i + 1) ++ nr.drop (i + 1) := by
  have e1 : st[i]'(by omega) = nr[i] := by
    simpa [List.getD, List.getElem?_eq_getElem hi, List.getElem?_eq_getElem (by omega : i < st.length)] using ht
  rw [List.take_succ_eq_append_getElem (by omega : i < st.length), List.drop_eq_getElem_cons hi, e1]
  simp
theorem mixed_get (st nr : List Bool) (i : Nat) (hi : i < nr.length) (he : st.length = nr.length) : (st.take i ++ nr.drop i).getD i false = nr.getD i false := by
  have h1 : (st.take i).length = i := by simp; omega
  simp only [List.getD]
  rw [List.getElem?_append_right (by omega), h1, Nat.sub_self, List.getElem?_drop]
  rfl
theorem mixed_len (st nr : List Bool) (i : Nat) (hi : i ≤ nr.length) (he : st.length = nr.length) : (st.take i ++ nr.drop i).length = nr.length := by simp; omega

/-- Has anything turned among the first ones? -/
def moved (l : List Pc) (nr : List Bool) (o : Int) (i : Nat) : Bool := (List.range i).any fun j => turned l nr o j && !(nr.getD j false)
theorem moved_succ (l : List Pc) (nr : List Bool) (o : Int) (i : Nat) : moved l nr o (i + 1) = (moved l nr o i || (turned l nr o i && !(nr.getD i false))) := by
  simp [moved, List.range_succ]

theorem shorts_lt : ∀ (a b : List Bool), a.length = b.length → (∀ i, a.getD i false = true → b.getD i false = true) → shorts b ≤ shorts a ∧ (a ≠ b → shorts b < shorts a)
  | [], [], _, _ => ⟨Nat.le_refl _, fun h => absurd rfl h⟩
  | x :: a, y :: b, hl, hm => by
    obtain ⟨i1, i2⟩ := shorts_lt a b (by simpa using hl) (fun i h => by simpa using hm (i + 1) (by simpa using h))
    have h0 := hm 0
    simp only [List.getD_cons_zero] at h0
    unfold shorts at *
    cases x <;> cases y <;> simp_all <;> omega
  | [], _ :: _, hl, _ => by simp at hl
  | _ :: _, [], hl, _ => by simp at hl

theorem step_mono (l : List Pc) (nr : List Bool) (o : Int) (hl : nr.length = l.length) (i : Nat) (h : nr.getD i false = true) : (stepL l nr o).getD i false = true := by
  have hi : i < l.length := by
    rcases Nat.lt_or_ge i l.length with h1 | h1
    · exact h1
    · rw [List.getD, List.getElem?_eq_none (by omega)] at h; cases h
  rw [stepL_get l nr o hi, turned, h]; rfl
theorem step_lt (l : List Pc) (nr : List Bool) (o : Int) (hl : nr.length = l.length) (h : stepL l nr o ≠ nr) : shorts (stepL l nr o) < shorts nr :=
  (shorts_lt nr (stepL l nr o) (by rw [stepL_length, hl]) (step_mono l nr o hl)).2 (fun e => h e.symm)

theorem list_ext_getD {a b : List Bool} (hl : a.length = b.length) (h : ∀ i, i < a.length → a.getD i false = b.getD i false) : a = b := by
  apply List.ext_getElem hl
  intro i h1 h2
  have := h i h1
  simpa [List.getD, List.getElem?_eq_getElem h1, List.getElem?_eq_getElem h2] using this

theorem moved_false (l : List Pc) (nr : List Bool) (o : Int) (hl : nr.length = l.length) : moved l nr o l.length = false ↔ stepL l nr o = nr := by
  unfold moved
  rw [List.any_eq_false]
  constructor
  · intro h
    refine list_ext_getD (by rw [stepL_length, hl]) fun i hi => ?_
    rw [stepL_length] at hi
    have := h i (List.mem_range.2 hi)
    rw [stepL_get l nr o hi]
    cases hn : nr.getD i false with
    | true => rw [turned, hn]; rfl
    | false => rw [hn] at this; simpa using this
  · intro h i hi
    have hi := List.mem_range.1 hi
    have : turned l nr o i = nr.getD i false := by rw [← stepL_get l nr o hi, h]
    rw [this]; cases nr.getD i false <;> simp

/-- Pass after pass, till nothing turns. -/
def iterL (l : List Pc) (o : Int) : Nat → List Bool → Int → List Bool × Int
  | 0, nr, ps => (nr, ps)
  | f + 1, nr, ps => if stepL l nr o = nr then (nr, ps + 1) else iterL l o f (stepL l nr o) (ps + 1)
theorem iterL_stable (l : List Pc) (o : Int) : ∀ (f : Nat) (nr : List Bool) (ps : Int), nr.length = l.length → shorts nr < f → iterL l o f nr ps = iterL l o (shorts nr + 1) nr ps := by
  intro f
  induction f using Nat.strongRecOn with
  | _ f ih =>
    intro nr ps hl hf
    cases f with
    | zero => omega
    | succ f =>
      rw [iterL, iterL]
      split
      · rfl
      · rename_i hne
        have hlt := step_lt l nr o hl hne
        have hls : (stepL l nr o).length = l.length := stepL_length l nr o
        rw [ih f (by omega) _ _ hls (by omega)]
        rcases Nat.lt_or_ge (shorts nr) f with h | h
        · rw [ih (shorts nr) (by omega) _ _ hls hlt]
        · have : f = shorts nr := by omega
          subst this
          rw [ih (shorts nr) (by omega) _ _ hls hlt]
def fixL (l : List Pc) (o : Int) : List Bool × Int := iterL l o (l.length + 1) (List.replicate l.length false) 0

def anyFar (l : List Pc) (nr : List Bool) (o : Int) (i : Nat) : Bool := (List.range i).any fun j => nr.getD j false && (match l[j]? with | some p => far p (posL l nr o) j 32 | none => false)
theorem anyFar_succ (l : List Pc) (nr : List Bool) (o : Int) (i : Nat) : anyFar l nr o (i + 1) = (anyFar l nr o i || (nr.getD i false && (match l[i]? with | some p => far p (posL l nr o) i 32 | none => false))) := by
  simp [anyFar, List.range_succ]

/-- Plan's error. -/
def planE (l : List Pc) (o : Int) : Int :=
  if checkM validR l ≠ 0 then checkM validR l else if o < 0 ∨ 140737488355328 < o then 5 else
  if 1048576 < (posL l (fixL l o).1 o).getD l.length 0 - o then 3 else if anyFar l (fixL l o).1 o l.length then 5 else 0
end Go.Proofs.Ytgoafcanccbflaa.lay
