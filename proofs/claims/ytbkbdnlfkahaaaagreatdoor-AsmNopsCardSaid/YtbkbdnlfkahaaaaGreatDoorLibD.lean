/- decode: escape, lead, takes. -/
import Derived.Test.YtbkbdnlfkahaaaaGreatDoorLibA
set_option linter.unusedVariables false
set_option linter.unusedSimpArgs false
set_option maxRecDepth 100000
namespace Go.Proofs.YtbkbdnlfkahaaaaGreatDoor.code
open Go.Ab

def escF (n : Int) : List UInt8 := bif n == 1 then [15] else bif n == 2 then [15, 56] else bif n == 3 then [15, 58] else []
theorem q_decode_escape (n : Int) (H : Heap) : CallQ prog f_decode_escape [.int .i64 n] H fun u H' => u = .string (mkS (escF n)) ∧ H' = H := by
  refine in_decode_escape fun hw => ?_
  simp only [pc_decode_escape, sxA, sxB, Nat.reduceBEq, Nat.reduceEqDiff, reduceCtorEq, mxA, mxB, Nat.reduceAdd, reduceIte, Nat.reduceLeDiff, splice]
  cases h1 : n == 1 <;> simp only [sxA, sxB, Nat.reduceBEq, Nat.reduceEqDiff, reduceCtorEq, mxA, mxB, Nat.reduceAdd, reduceIte, Nat.reduceLeDiff, splice, ret_decode_escape]
  · cases h2 : n == 2 <;> simp only [sxA, sxB, Nat.reduceBEq, Nat.reduceEqDiff, reduceCtorEq, mxA, mxB, Nat.reduceAdd, reduceIte, Nat.reduceLeDiff, splice, ret_decode_escape]
    · cases h3 : n == 3 <;> simp only [sxA, sxB, Nat.reduceBEq, Nat.reduceEqDiff, reduceCtorEq, mxA, mxB, Nat.reduceAdd, reduceIte, Nat.reduceLeDiff, splice, ret_decode_escape]
      · exact .mk (Nat.le_refl _) ⟨by simp [escF, h1, h2, h3], rfl⟩
      · exact .mk (Nat.le_refl _) ⟨by simp [escF, h1, h2, h3], rfl⟩
    · exact .mk (Nat.le_refl _) ⟨by simp [escF, h1, h2], rfl⟩
  · exact .mk (Nat.le_refl _) ⟨by simp [escF, h1], rfl⟩

def hasB (n b : Int) : Bool := !(IntKind.i64.wrap (BitVec.ofInt IntKind.i64.bits n &&& BitVec.ofInt IntKind.i64.bits b).toNat == 0)
def leadF (f : Fm) : List UInt8 := (bif hasB f.pre 1 then [102] else []) ++ ((bif hasB f.pre 2 then [242] else []) ++ ((bif hasB f.pre 4 then [243] else []) ++ escF f.map))
theorem escF_len (n : Int) : (escF n).length ≤ 2 := by unfold escF; cases n == 1 <;> cases n == 2 <;> cases n == 3 <;> simp
theorem leadF_len (f : Fm) : (leadF f).length ≤ 5 := by
  have := escF_len f.map
  unfold leadF
  cases hasB f.pre 1 <;> cases hasB f.pre 2 <;> cases hasB f.pre 4 <;> simp <;> omega
theorem q_decode_lead (x : Lf) (H : Heap) (hx : x.At H) : CallQ prog f_decode_lead [.agg x.cells.toArray] H fun u H' => u = .string (mkS (leadF x.f)) ∧ ∃ m, H' = H.up m := by
  refine in_decode_lead fun hw => ?_
  have ec : (Value.agg x.cells.toArray).cells.toList = x.cells := rfl
  have g3 : x.cells[3]? = some (.int .i64 x.f.pre) := rfl
  have g4 : x.cells[4]? = some (.int .i64 x.f.map) := rfl
  have he := escF_len x.f.map
  obtain ⟨q1, h1⟩ : ∃ c, hasB x.f.pre 1 = c := ⟨_, rfl⟩
  obtain ⟨q2, h2⟩ : ∃ c, hasB x.f.pre 2 = c := ⟨_, rfl⟩
  obtain ⟨q3, h3⟩ : ∃ c, hasB x.f.pre 4 = c := ⟨_, rfl⟩
  have d1 : (!(IntKind.i64.wrap (BitVec.ofInt IntKind.i64.bits x.f.pre &&& BitVec.ofInt IntKind.i64.bits 1).toNat == 0)) = q1 := h1
  have d2 : (!(IntKind.i64.wrap (BitVec.ofInt IntKind.i64.bits x.f.pre &&& BitVec.ofInt IntKind.i64.bits 2).toNat == 0)) = q2 := h2
  have d3 : (!(IntKind.i64.wrap (BitVec.ofInt IntKind.i64.bits x.f.pre &&& BitVec.ofInt IntKind.i64.bits 4).toNat == 0)) = q3 := h3
  simp only [pc_decode_lead, ec, sxA, sxB, Nat.reduceBEq, Nat.reduceEqDiff, reduceCtorEq, mxA, mxB, Nat.reduceAdd, reduceIte, Nat.reduceLeDiff, splice, g3, d1]
  have fin : ∀ (l : List UInt8) (K : Value → Heap → Prop), l.length ≤ 3 → K (.string (mkS (l ++ escF x.f.map))) (H.push (.cells x.cells T_api_Form false)) → True := fun _ _ _ _ => trivial
  cases q1 <;> simp only [sxA, sxB, Nat.reduceBEq, Nat.reduceEqDiff, reduceCtorEq, mxA, mxB, Nat.reduceAdd, reduceIte, Nat.reduceLeDiff, splice, bl_mkS, g3, d2, List.length_nil, List.length_cons, Nat.zero_add, Nat.reduceAdd, Nat.reduceLeDiff, true_and, List.nil_append, List.cons_append]
  all_goals cases q2 <;> simp only [sxA, sxB, Nat.reduceBEq, Nat.reduceEqDiff, reduceCtorEq, mxA, mxB, Nat.reduceAdd, reduceIte, Nat.reduceLeDiff, splice, bl_mkS, g3, d3, List.length_nil, List.length_cons, Nat.zero_add, Nat.reduceAdd, Nat.reduceLeDiff, true_and, List.nil_append, List.cons_append]
  all_goals cases q3 <;> simp only [sxA, sxB, Nat.reduceBEq, Nat.reduceEqDiff, reduceCtorEq, mxA, mxB, Nat.reduceAdd, reduceIte, Nat.reduceLeDiff, splice, bl_mkS, g4, List.length_nil, List.length_cons, Nat.zero_add, Nat.reduceAdd, Nat.reduceLeDiff, true_and, List.nil_append, List.cons_append]
  all_goals
    refine (q_decode_escape x.f.map _).mono ?_
    rintro _ _ ⟨rfl, rfl⟩
    simp only [sxA, sxB, Nat.reduceBEq, Nat.reduceEqDiff, reduceCtorEq, mxA, mxB, Nat.reduceAdd, reduceIte, Nat.reduceLeDiff, splice, bl_mkS, ret_decode_lead]
    refine ⟨by first | omega | (simp only [List.length_nil, List.length_cons]; omega), .ext hw ((Ext.refl H).push _) ⟨by simp [leadF, h1, h2, h3], _, rfl⟩⟩

def clrB (c : Int) : Int := IntKind.i64.wrap (IntKind.u8.wrap (BitVec.ofInt IntKind.u8.bits c &&& ~~~BitVec.ofInt IntKind.u8.bits 7).toNat)
def takesF (f : Fm) (d : Nat) (c : Int) : Bool :=
  bif f.vex then (d == 0) && ((c == 196) || ((c == 197) && (f.map == 1) && !(f.w == 1)))
  else match (leadF f)[d]? with
    | some b => c == (b.toNat : Int)
    | none => bif Nat.blt (leadF f).length d then false else bif decide (0 ≤ idxI f.slots 4) then clrB c == f.code else IntKind.i64.wrap c == f.code
theorem q_decode_takes (x : Lf) (d : Nat) (c : Int) (H : Heap) (hx : x.At H) : CallQ prog f_decode_takes [.agg x.cells.toArray, .int .i64 d, .int .u8 c] H fun u H' => u = .bool (takesF x.f d c) ∧ ∃ m, H' = H.up m := by
  refine in_decode_takes fun hw => ?_
  have ec : (Value.agg x.cells.toArray).cells.toList = x.cells := rfl
  have g8 : x.cells[8]? = some (.bool x.f.vex) := rfl
  have g4 : x.cells[4]? = some (.int .i64 x.f.map) := rfl
  have g5 : x.cells[5]? = some (.int .i64 x.f.code) := rfl
  have g7 : x.cells[7]? = some (.int .i64 x.f.w) := rfl
  have ha := lcells_all hx
  have hx1 : Ext H (H.push (.cells x.cells T_api_Form false)) := (Ext.refl H).push _
  simp only [pc_decode_takes, ec, sxA, sxB, Nat.reduceBEq, Nat.reduceEqDiff, reduceCtorEq, mxA, mxB, Nat.reduceAdd, reduceIte, Nat.reduceLeDiff, splice, g8]
  cases hv : x.f.vex with
  | true =>
    have ed : ((d : Int) == 0) = (d == 0) := by
      rw [Bool.eq_iff_iff]; simp
    simp only [sxA, sxB, Nat.reduceBEq, Nat.reduceEqDiff, reduceCtorEq, mxA, mxB, Nat.reduceAdd, reduceIte, Nat.reduceLeDiff, splice, ed]
    have ht : takesF x.f d c = ((d == 0) && ((c == 196) || ((c == 197) && (x.f.map == 1) && !(x.f.w == 1)))) := by simp [takesF, hv]
    rw [ht]
    cases h1 : d == 0 <;> simp only [sxA, sxB, Nat.reduceBEq, Nat.reduceEqDiff, reduceCtorEq, mxA, mxB, Nat.reduceAdd, reduceIte, Nat.reduceLeDiff, splice, ret_decode_takes]
    · exact .ext hw hx1 ⟨rfl, _, rfl⟩
    cases h2 : c == 196 <;> simp only [sxA, sxB, Nat.reduceBEq, Nat.reduceEqDiff, reduceCtorEq, mxA, mxB, Nat.reduceAdd, reduceIte, Nat.reduceLeDiff, splice, ret_decode_takes]
    · cases h3 : c == 197 <;> simp only [sxA, sxB, Nat.reduceBEq, Nat.reduceEqDiff, reduceCtorEq, mxA, mxB, Nat.reduceAdd, reduceIte, Nat.reduceLeDiff, splice, g4, ret_decode_takes]
      · exact .ext hw hx1 ⟨rfl, _, rfl⟩
      cases h4 : x.f.map == 1 <;> simp only [sxA, sxB, Nat.reduceBEq, Nat.reduceEqDiff, reduceCtorEq, mxA, mxB, Nat.reduceAdd, reduceIte, Nat.reduceLeDiff, splice, g7, ret_decode_takes]
      · exact .ext hw hx1 ⟨rfl, _, rfl⟩
      exact .ext hw hx1 ⟨by simp, _, rfl⟩
    · exact .ext hw hx1 ⟨rfl, _, rfl⟩
  | false =>
    simp only [sxA, sxB, Nat.reduceBEq, Nat.reduceEqDiff, reduceCtorEq, mxA, mxB, Nat.reduceAdd, reduceIte, Nat.reduceLeDiff, splice, lcells_length, lcells_take, ha]
    refine (q_decode_lead x _ (hx.ext hw hx1)).thenW ?_
    rintro _ _ hn hw2 ⟨rfl, m, rfl⟩
    simp only [Heap.next_up, Heap.next_push] at hn
    have hx2 : Ext H ((H.push (.cells x.cells T_api_Form false)).up m) := hx1.up (by simp only [Heap.next_push]; exact hn)
    have hg2 : ((H.push (.cells x.cells T_api_Form false)).up m).get H.next = some (.cells x.cells T_api_Form false) := by rw [Heap.get_up, Heap.get_push, if_pos rfl]
    have hb2 : H.next < ((H.push (.cells x.cells T_api_Form false)).up m).next := by simp only [Heap.next_up]; omega
    have eu : ∀ m', ((H.push (.cells x.cells T_api_Form false)).up m).up m' = (H.push (.cells x.cells T_api_Form false)).up m' := fun _ => rfl
    simp only [sxA, sxB, Nat.reduceBEq, Nat.reduceEqDiff, reduceCtorEq, mxA, mxB, Nat.reduceAdd, reduceIte, Nat.reduceLeDiff, splice, bl_mkS]
    have hfin : ∀ (H2 : Heap), Ext H H2 → ∀ (b : Bool), b = takesF x.f d c → Ret H (fun u H' => u = .bool (takesF x.f d c) ∧ ∃ m, H' = H.up m) (.bool b) H2 := fun H2 h2 b hb => .ext hw h2 ⟨by rw [hb], _, rfl⟩
    cases hl : decide ((d : Int) < ((leadF x.f).length : Int)) with
    | true =>
      have hl : d < (leadF x.f).length := by have := of_decide_eq_true hl; omega
      have c1 : (0 : Int) ≤ d := by omega
      have c2 : (d : Int).toNat = d := by omega
      have hg := List.getElem?_eq_getElem hl
      simp only [sxA, sxB, Nat.reduceBEq, Nat.reduceEqDiff, reduceCtorEq, mxA, mxB, Nat.reduceAdd, reduceIte, Nat.reduceLeDiff, splice, bl_mkS, c1, c2, hg, ret_decode_takes]
      refine hfin _ hx2 _ ?_
      simp [takesF, hv, hg]
    | false =>
      have hl : (leadF x.f).length ≤ d := by have := of_decide_eq_false hl; omega
      have hg : (leadF x.f)[d]? = none := List.getElem?_eq_none hl
      simp only [sxA, sxB, Nat.reduceBEq, Nat.reduceEqDiff, reduceCtorEq, mxA, mxB, Nat.reduceAdd, reduceIte, Nat.reduceLeDiff, splice, bl_mkS]
      cases hl2 : decide (((leadF x.f).length : Int) < (d : Int)) with
      | true =>
        have hl2 : (leadF x.f).length < d := by have := of_decide_eq_true hl2; omega
        simp only [sxA, sxB, Nat.reduceBEq, Nat.reduceEqDiff, reduceCtorEq, mxA, mxB, Nat.reduceAdd, reduceIte, Nat.reduceLeDiff, splice, ret_decode_takes]
        refine hfin _ hx2 _ ?_
        have : Nat.blt (leadF x.f).length d = true := by simpa using hl2
        simp [takesF, hv, hg, this]
      | false =>
        have hl2 : ¬ (leadF x.f).length < d := by have := of_decide_eq_false hl2; omega
        have hb : Nat.blt (leadF x.f).length d = false := by
          cases hb : Nat.blt (leadF x.f).length d with
          | false => rfl
          | true => exact absurd (by simpa using hb) hl2
        simp only [sxA, sxB, Nat.reduceBEq, Nat.reduceEqDiff, reduceCtorEq, mxA, mxB, Nat.reduceAdd, reduceIte, Nat.reduceLeDiff, splice, lcells_length, lcells_take, ha]
        refine (q_shape_Slot x 4 _ (hx.ext hw hx2)).thenW ?_
        rintro _ _ hn3 hw3 ⟨rfl, m3, rfl⟩
        simp only [Heap.next_up] at hn3
        rw [eu]
        have hx3 : Ext H ((H.push (.cells x.cells T_api_Form false)).up m3) := hx1.up (by simp only [Heap.next_push]; omega)
        simp only [sxA, sxB, Nat.reduceBEq, Nat.reduceEqDiff, reduceCtorEq, mxA, mxB, Nat.reduceAdd, reduceIte, Nat.reduceLeDiff, splice]
        cases h0 : decide (0 ≤ idxI x.f.slots 4) with
        | true =>
          simp only [sxA, sxB, Nat.reduceBEq, Nat.reduceEqDiff, reduceCtorEq, mxA, mxB, Nat.reduceAdd, reduceIte, Nat.reduceLeDiff, splice, g5, ret_decode_takes]
          refine hfin _ hx3 _ ?_
          simp [takesF, hv, hg, hb, h0, clrB]
        | false =>
          simp only [sxA, sxB, Nat.reduceBEq, Nat.reduceEqDiff, reduceCtorEq, mxA, mxB, Nat.reduceAdd, reduceIte, Nat.reduceLeDiff, splice, g5, ret_decode_takes]
          refine hfin _ hx3 _ ?_
          simp [takesF, hv, hg, hb, h0]
end Go.Proofs.YtbkbdnlfkahaaaaGreatDoor.code
/- decode: the trie's nodes. -/
set_option linter.unusedVariables false
set_option linter.unusedSimpArgs false
set_option maxRecDepth 100000
namespace Go.Proofs.YtbkbdnlfkahaaaaGreatDoor.code
open Go.Ab

theorem cellsV_map (m : Option Nat) : (Value.map m).cells.toList = [.map m] := Eq.trans rfl rfl
theorem oneCell_map (m : Option Nat) : (Value.map m).oneCell' = true := Eq.trans rfl rfl
theorem cellsV_ptr (m : Option Addr) : (Value.pointer m).cells.toList = [.pointer m] := Eq.trans rfl rfl
theorem oneCell_ptr (m : Option Addr) : (Value.pointer m).oneCell' = true := Eq.trans rfl rfl

def KeepE (H H' : Heap) (v : Value) : Prop := ∀ id, id < H.next → (∀ a l c, v = .slice (some a) l c → id ≠ a.block) → H'.get id = H.get id
theorem KeepE.a {H H' : Heap} {v : Value} (h : KeepE H H' v) (hw : H.Wf) : KeepA H H' v := fun id bl hg hn => by rw [h id (hw.lt hg) hn]; exact hg
theorem Acc.app2 {H0 H : Heap} {v : Value} {ys : List Lf} {x : Lf} {b1 : Nat} {K : Value → Heap → Prop} (h : Acc H0 H v ys) (hn0 : H0.next ≤ H.next) (hw : H.Wf) (hxa : x.At H) (hl : ys.length ≤ 100000) (hb1 : H.get b1 = some (.cells x.cells T_api_Form false)) (hne : ∀ a l c, v = .slice (some a) l c → a.block ≠ b1)
    (hK : ∀ v' H', H'.Wf → H.next ≤ H'.next → Acc H0 H' v' (ys ++ [x]) → (∃ a l c, v' = .slice (some a) l c ∧ H.next ≤ a.block) → KeepE H H' v → K v' H') : appK T_api_Form 10 112 v (.slice (some ⟨b1, 0, none⟩) 1 1) H K := by
  have hsrc : asrc 10 (.slice (some ⟨b1, 0, none⟩) 1 1) H = some (1, x.cells) := by
    have := asrc_sl (size := 10) (m := 1) (b := b1) (o := 0) (cap := 1) (c := x.cells) (e := T_api_Form) (ro := false) (H := H) hb1 (by decide) (by rw [lcells_length]; decide)
    rw [this]; rfl
  have a1 := lcells_all hxa
  rcases id h with ⟨rfl, rfl⟩ | ⟨b, rfl, hb0, hgb, hyn, hya⟩
  · refine appK_nil hsrc a1 (by decide) (by decide) (by decide) ?_
    have hk : KeepE H (H.push (.cells x.cells T_api_Form false)) (.slice none 0 0) := fun id hid _ => by rw [Heap.get_push, if_neg (by omega)]
    refine hK _ _ (hw.push _) (by simp) (.inr ⟨H.next, rfl, hn0, by rw [Heap.get_push, if_pos rfl]; simp [cellsL], by simp, fun y hy => ?_⟩) ⟨_, _, _, rfl, Nat.le_refl _⟩ hk
    simp only [List.nil_append, List.mem_singleton] at hy
    subst hy
    exact (hk.a hw).at h hxa
  · have hbl := hw.lt hgb
    have hbn : b ≠ b1 := hne _ _ _ rfl
    refine appK_own rfl hsrc a1 (by decide) (c := cellsL ys) hgb (by rw [cellsL_length]; omega) (by omega) (by omega) (by unfold UNK; omega) ?_
    have hk : KeepE H ((H.kill b).push (.cells (cellsL ys ++ x.cells) T_api_Form false)) (.slice (some ⟨b, 0, none⟩) ys.length (UNK + 10)) := fun id hid hn => by
      rw [Heap.get_push, if_neg (by simp; omega), Heap.get_kill, if_neg (hn _ _ _ rfl)]
    refine hK (.slice (some ⟨H.next, 0, none⟩) (ys.length + 1) (UNK + 10)) ((H.kill b).push (.cells (cellsL ys ++ x.cells) T_api_Form false)) ((hw.kill _).push _) (by simp)
      (.inr ⟨H.next, by simp, hn0, by rw [Heap.get_push, if_pos (by simp), cellsL_snoc], by simp, fun y hy => ?_⟩) ⟨_, _, _, rfl, Nat.le_refl _⟩ hk
    simp only [List.mem_append, List.mem_singleton] at hy
    rcases hy with hy | rfl
    · exact (hk.a hw).at h (hya y hy)
    · exact (hk.a hw).at h hxa

def KeepC (H H' : Heap) : Prop := ∀ id c e ro, H.get id = some (.cells c e ro) → e ≠ T_decode_node → H'.get id = some (.cells c e ro)
def Node (H0 H : Heap) (v : Value) (d : Nat) (ys : List Lf) : Prop := ∃ b mb fv, v = .pointer (some ⟨b, 0, none⟩) ∧ H0.next ≤ b ∧ H0.next ≤ mb ∧ H.get b = some (.cells [.int .i64 d, fv, .map (some mb)] T_decode_node false) ∧ H.get mb = some (.map []) ∧ Acc H0 H fv ys

theorem IsSl.setMap {H : Heap} {v : Value} {n : Nat} {cs : List Value} {m : Nat} {es : List (Value × Value)} {b : Blk} (hm : H.get m = some (.map es)) (h : IsSl H v n cs) : IsSl (H.set m b) v n cs := by
  obtain ⟨a, cap, rfl, h1⟩ := h
  refine ⟨a, cap, rfl, fun hn => ?_⟩
  obtain ⟨b1, e1, ro1, rfl, hb1⟩ := h1 hn
  refine ⟨b1, e1, ro1, rfl, ?_⟩
  rw [Heap.get_set, if_neg (fun e => by subst e; rw [hm] at hb1; cases hb1)]
  exact hb1
theorem Lf.At.setMap {H : Heap} {x : Lf} {m : Nat} {es : List (Value × Value)} {b : Blk} (hm : H.get m = some (.map es)) (h : x.At H) : x.At (H.set m b) := ⟨h.1, h.2.1, h.2.2.1.setMap hm, h.2.2.2.setMap hm⟩
theorem Acc.setMap {H0 H : Heap} {v : Value} {ys : List Lf} {m : Nat} {es : List (Value × Value)} {b : Blk} (hm : H.get m = some (.map es)) (h : Acc H0 H v ys) : Acc H0 (H.set m b) v ys := by
  rcases h with h | ⟨b1, h1, h2, h3, h4, h5⟩
  · exact .inl h
  · refine .inr ⟨b1, h1, h2, ?_, h4, fun y hy => (h5 y hy).setMap hm⟩
    rw [Heap.get_set, if_neg (fun e => by subst e; rw [hm] at h3; cases h3)]
    exact h3

section
variable {T : Heap → Prop} {L : List Fm} (hR : ∀ H, T H → CallQ prog f_table_Rows [] H fun u H' => Told H H' u L)
include hR
theorem q_decode_trie (H : Heap) (ht : T H) : CallQ prog f_decode_trie [] H fun u H' => Ext H H' ∧ ∃ ys : List Lf, ys.map (·.f) = L ∧ Node H H' u 0 ys ∧ ys.length ≤ 6000 ∧ ∀ y ∈ ys, y.Fr H.next := by
  refine in_decode_trie fun hw => ?_
  simp only [pc_decode_trie, sxA, sxB, Nat.reduceBEq, Nat.reduceEqDiff, reduceCtorEq, mxA, mxB, Nat.reduceAdd, reduceIte, Nat.reduceLeDiff, splice]
  refine (hR H ht).thenW ?_
  rintro u H1 hn1 hw1 ⟨hx1, ys, e1, ha, hl, hf⟩
  have hfm := ha.fms
  obtain ⟨aa, cap, rfl, _⟩ := id hfm.1
  simp only [sxA, sxB, Nat.reduceBEq, Nat.reduceEqDiff, reduceCtorEq, mxA, mxB, Nat.reduceAdd, reduceIte, Nat.reduceLeDiff, splice, Zds, cellsV_map, oneCell_map, Nat.reduceMul, ret_decode_trie]
  have hx2 : Ext H1 ((H1.push (.map [])).push (.cells [.int .i64 0, .slice aa ys.length cap, .map (some H1.next)] T_decode_node false)) := ((Ext.refl H1).push _).push _
  refine .mk ((hx1.trans hx2).next) ⟨hx1.trans hx2, ys, e1, ⟨H1.next + 1, H1.next, _, rfl, by have := hx1.next; omega, hx1.next, ?_, ?_, ha.ext hw1 hx2⟩, hl, hf⟩
  · rw [Heap.get_push, if_pos (by simp)]; rfl
  · rw [Heap.get_push, if_neg (by simp), Heap.get_push, if_pos rfl]
end

def openF (d : Nat) (L : List Fm) : Bool := match L with
  | [] => false
  | f :: _ => bif f.vex then d == 0 else Nat.ble d (leadF f).length
theorem q_decode_open {H0 H : Heap} {v : Value} {d : Nat} {ys : List Lf} (hN : Node H0 H v d ys) (hl : ys.length ≤ 6000) : CallQ prog f_decode_node_open [v] H fun u H' => u = .bool (openF d (ys.map (·.f))) ∧ ∃ m, H' = H.up m := by
  refine in_decode_node_open fun hw => ?_
  obtain ⟨b, mb, fv, rfl, hb0, hmb0, hb, hmb, ha⟩ := hN
  have hfm := ha.fms
  obtain ⟨⟨aa, cap, rfl, hsl⟩, hxa⟩ := id hfm
  simp only [pc_decode_node_open, sxA, sxB, Nat.reduceBEq, Nat.reduceEqDiff, reduceCtorEq, mxA, mxB, Nat.reduceAdd, reduceIte, Nat.reduceLeDiff, splice, hb]
  cases h0 : ((ys.length : Int) == 0) with
  | true =>
    have h0 : ys = [] := by
      have : (ys.length : Int) = 0 := by simpa using h0
      exact List.length_eq_zero_iff.1 (by omega)
    simp only [sxA, sxB, Nat.reduceBEq, Nat.reduceEqDiff, reduceCtorEq, mxA, mxB, Nat.reduceAdd, reduceIte, Nat.reduceLeDiff, splice, ret_decode_node_open]
    exact .mk (Nat.le_refl _) ⟨by rw [h0]; rfl, _, rfl⟩
  | false =>
    have hlp : 0 < ys.length := by
      have : ¬ (ys.length : Int) = 0 := by simpa using h0
      omega
    obtain ⟨b1, e1, ro1, rfl, hb1⟩ := hsl hlp
    have hy := List.getElem?_eq_getElem hlp
    have hop : ∀ z, ys[0]? = some z → openF d (ys.map (·.f)) = bif z.f.vex then d == 0 else Nat.ble d (leadF z.f).length := fun z hz => by
      cases ys with
      | nil => simp at hz
      | cons a l => simp at hz; subst hz; rfl
    generalize ys[0]'hlp = y at hy
    have hym := List.mem_of_getElem? hy
    have hop := hop y hy
    have d1 : (0 : Int) ≤ 0 ∧ (0 : Int) < (ys.length : Int) := by omega
    have d3 : (0 : Int).toNat = 0 := rfl
    have nn := cellsL_length ys
    have d4 : 10 ≤ ys.length * 10 := by omega
    have dd := cellsL_at ys 0 y hy
    rw [Nat.zero_mul, List.drop_zero] at dd
    have wk := hxa y hym
    have ak := lcells_all wk
    have g8 : y.cells[8]? = some (.bool y.f.vex) := rfl
    have hbl := hw.lt hb
    have hbn : ¬ b = H.next := by omega
    simp only [sxA, sxB, Nat.reduceBEq, Nat.reduceEqDiff, reduceCtorEq, mxA, mxB, Nat.reduceAdd, reduceIte, Nat.reduceLeDiff, splice, hb, d1, d3, d4, hb1, nn, dd, lcells_length, lcells_take, ak, g8]
    obtain ⟨G1, hG1⟩ : ∃ h, h = (H.push (.cells [.int .i64 0, .slice none 0 0, .slice none 0 0, .int .i64 0, .int .i64 0, .int .i64 0, .int .i64 0, .int .i64 0, .bool false, .int .i64 0] T_api_Form false)).set H.next (.cells y.cells T_api_Form false) := ⟨_, rfl⟩
    have hwG1 : G1.Wf := by rw [hG1]; exact (hw.push _).set (by rw [Heap.get_push, if_pos rfl]) _
    have hxG1 : Ext H G1 := by rw [hG1]; exact ((Ext.refl H).push _).set (Nat.le_refl _) _
    have hgG1 : G1.get H.next = some (.cells y.cells T_api_Form false) := by rw [hG1, Heap.get_set, if_pos rfl]
    have hbG1 : G1.get b = some (.cells [.int .i64 d, .slice (some ⟨b1, 0, none⟩) ys.length cap, .map (some mb)] T_decode_node false) := by rw [hxG1.get _ hbl]; exact hb
    simp only [← hG1]
    cases hv : y.f.vex with
    | true =>
      rw [hv] at hop
      have ed : ((d : Int) == 0) = (d == 0) := by rw [Bool.eq_iff_iff]; simp
      simp only [sxA, sxB, Nat.reduceBEq, Nat.reduceEqDiff, reduceCtorEq, mxA, mxB, Nat.reduceAdd, reduceIte, Nat.reduceLeDiff, splice, hbG1, ed, ret_decode_node_open]
      exact .ext hw hxG1 ⟨by rw [hop]; rfl, _, rfl⟩
    | false =>
      rw [hv] at hop
      simp only [sxA, sxB, Nat.reduceBEq, Nat.reduceEqDiff, reduceCtorEq, mxA, mxB, Nat.reduceAdd, reduceIte, Nat.reduceLeDiff, splice, hbG1, hgG1, lcells_length, lcells_take, ak]
      refine ⟨rfl, (q_decode_lead y G1 (wk.ext hw hxG1)).thenW ?_⟩
      rintro _ _ hn2 hw2 ⟨rfl, m2, rfl⟩
      simp only [Heap.next_up] at hn2
      simp only [sxA, sxB, Nat.reduceBEq, Nat.reduceEqDiff, reduceCtorEq, mxA, mxB, Nat.reduceAdd, reduceIte, Nat.reduceLeDiff, splice, bl_mkS, ret_decode_node_open]
      refine ⟨fun _ _ => rfl, .ext hw (hxG1.up hn2) ⟨?_, _, rfl⟩⟩
      rw [hop]
      congr 1
      rw [Bool.eq_iff_iff]
      simp
end Go.Proofs.YtbkbdnlfkahaaaaGreatDoor.code
/- decode: child, find. -/
set_option linter.unusedVariables false
set_option linter.unusedSimpArgs false
set_option maxRecDepth 100000
namespace Go.Proofs.YtbkbdnlfkahaaaaGreatDoor.code
open Go.Ab

structure MapTy (ty : TypeId) : Prop where
  m : ∃ kt e td inf, prog.underlying ty = some (.map kt e) ∧ prog.underlying kt = some td ∧ prog.info? e = some inf ∧ inf.zero = some (.pointer none) ∧ ∀ c, keyOk td (.int .u8 c) = true

theorem q_decode_child {H0 H : Heap} {v : Value} {d : Nat} {ys : List Lf} (hty : MapTy TM_p_decode_node) (hN : Node H0 H v d ys) (hx0 : Ext H0 H) (hl : ys.length ≤ 6000) (hd : d ≤ 1000000) (c : Int) : CallQ prog f_decode_node_child [v, .int .u8 c] H fun u H' => Ext H0 H' ∧ ∃ zs : List Lf, zs.map (·.f) = (ys.map (·.f)).filter (fun f => takesF f d c) ∧ Node H0 H' u (d + 1) zs ∧ zs.length ≤ ys.length ∧ ∀ z ∈ zs, z ∈ ys := by
  refine in_decode_node_child fun hw => ?_
  obtain ⟨kt, et, td, inf, ty1, ty2, ty3, ty4, ty5⟩ := hty.m
  obtain ⟨b, mb, fv, rfl, hb0, hmb0, hb, hmb, ha⟩ := hN
  have hfm := ha.fms
  obtain ⟨⟨aa, cap, rfl, hsl⟩, hxa⟩ := id hfm
  have hbl := hw.lt hb
  have hmbl := hw.lt hmb
  have hbm : b ≠ mb := fun e => by subst e; rw [hb] at hmb; cases hmb
  simp only [pc_decode_node_child, sxA, sxB, Nat.reduceBEq, Nat.reduceEqDiff, reduceCtorEq, mxA, mxB, Nat.reduceAdd, reduceIte, Nat.reduceLeDiff, splice, hb]
  rw [gen_look0 (m := mb) ty1 ty2 ty3 ty4 rfl (by simp only [uxA, uxB, Nat.reduceBEq]) (by simp only [uxA, uxB, Nat.reduceBEq]; exact ty5 c) hmb]
  have n1 : ¬ b = H.next := by omega
  have n2 : ¬ b = H.next + 1 := by omega
  have ed : IntKind.i64.wrap ((d : Int) + 1) = ((d + 1 : Nat) : Int) := by rw [w64 (by unfold I64; omega)]; omega
  simp only [sxA, sxB, Nat.reduceBEq, Nat.reduceEqDiff, reduceCtorEq, mxA, mxB, Nat.reduceAdd, reduceIte, Nat.reduceLeDiff, splice, hb, n1, n2, ed, cellsV_map, oneCell_map, Nat.reduceMul]
  have hx1 : Ext H ((H.push (.map [])).push (.cells [.int .i64 ((d + 1 : Nat) : Int), .slice none 0 0, .map (some H.next)] T_decode_node false)) := ((Ext.refl H).push _).push _
  have hm1 : ((H.push (.map [])).push (.cells [.int .i64 ((d + 1 : Nat) : Int), .slice none 0 0, .map (some H.next)] T_decode_node false)).get H.next = some (.map []) := by rw [Heap.get_push, if_neg (by simp), Heap.get_push, if_pos rfl]
  have hb1 : ((H.push (.map [])).push (.cells [.int .i64 ((d + 1 : Nat) : Int), .slice none 0 0, .map (some H.next)] T_decode_node false)).get (H.next + 1) = some (.cells [.int .i64 ((d + 1 : Nat) : Int), .slice none 0 0, .map (some H.next)] T_decode_node false) := by rw [Heap.get_push, if_pos (by simp)]
  have hw1 := (hw.push (.map [])).push (.cells [.int .i64 ((d + 1 : Nat) : Int), .slice none 0 0, .map (some H.next)] T_decode_node false)
  have hn1 : ((H.push (.map [])).push (.cells [.int .i64 ((d + 1 : Nat) : Int), .slice none 0 0, .map (some H.next)] T_decode_node false)).next = H.next + 2 := rfl
  generalize (H.push (.map [])).push (.cells [.int .i64 ((d + 1 : Nat) : Int), .slice none 0 0, .map (some H.next)] T_decode_node false) = H1 at hx1 hm1 hb1 hw1 hn1
  refine loop_intro (fun m A' H' => ∃ (k : Nat) (zs : List Lf) (av : Value), k ≤ ys.length ∧ m = ys.length - k ∧ H'.Wf ∧ Ext H H' ∧ H1.next ≤ H'.next ∧ H'.get H.next = some (.map []) ∧ H'.get (H.next + 1) = some (.cells [.int .i64 ((d + 1 : Nat) : Int), av, .map (some H.next)] T_decode_node false) ∧ Acc H1 H' av zs ∧
      zs.map (·.f) = ((ys.take k).map (·.f)).filter (fun f => takesF f d c) ∧ zs.length ≤ k ∧ (∀ z ∈ zs, z ∈ ys) ∧
      A' 0 = .pointer (some ⟨b, 0, none⟩) ∧ A' 1 = .int .u8 c ∧ A' 7 = .pointer (some ⟨H.next + 1, 0, none⟩) ∧ A' 32 = .slice aa ys.length cap ∧ A' 33 = .int .i64 ys.length ∧ A' 34 = .int .i64 k) ys.length ?_ ?_
  · refine ⟨0, [], .slice none 0 0, Nat.zero_le _, by omega, hw1, hx1, Nat.le_refl _, hm1, hb1, .inl ⟨rfl, rfl⟩, by simp, by simp, fun z hz => (by cases hz), ?_, ?_, ?_, ?_, ?_, ?_⟩
    all_goals simp only [uxA, uxB, Nat.reduceBEq]
    rfl
  · rintro m A' H3 ⟨k, zs, av, hk, rfl, hw3, hx3, hn3, hm3, hb3, hac3, hzs, hzl, hzy, r0, r1, r7, r32, r33, r34⟩
    simp only [sxA, sxB, Nat.reduceBEq, Nat.reduceEqDiff, reduceCtorEq, mxA, mxB, Nat.reduceAdd, reduceIte, Nat.reduceLeDiff, splice, r33, r34]
    have hbH3 : H3.get b = some (.cells [.int .i64 (d : Int), .slice aa ys.length cap, .map (some mb)] T_decode_node false) := by rw [hx3.get _ hbl]; exact hb
    refine cB_cases (fun h3 => ?_) (fun h3 => ?_)
    · have h3 : k < ys.length := by have := of_decide_eq_true h3; omega
      obtain ⟨b1, e1', ro1, rfl, hg1⟩ := hsl (by omega)
      have hg3 : H3.get b1 = some (.cells (cellsL ys) e1' ro1) := by rw [hx3.get _ (hw.lt hg1)]; exact hg1
      have d1 : (0 : Int) ≤ k ∧ (k : Int) < ys.length := by omega
      have d3 : (k : Int).toNat = k := by omega
      have d4 : k * 10 + 10 ≤ ys.length * 10 := by omega
      have ek : IntKind.i64.wrap ((k : Int) + 1) = ((k + 1 : Nat) : Int) := by rw [w64 (by unfold I64; omega)]; omega
      have hpk := List.getElem?_eq_getElem h3
      have dd := cellsL_at ys k _ hpk
      have nn := cellsL_length ys
      have hym : ys[k] ∈ ys := List.getElem_mem h3
      have wk := (hxa _ hym).ext hw hx3
      have hxtk : ys.take (k + 1) = ys.take k ++ [ys[k]] := List.take_succ_eq_append_getElem h3
      generalize ys[k] = x at hpk dd hym wk hxtk
      have ak := lcells_all wk
      have hbl3 := hw3.lt hbH3
      have n3 : ¬ b = H3.next := by omega
      simp only [sxA, sxB, Nat.reduceBEq, Nat.reduceEqDiff, reduceCtorEq, mxA, mxB, Nat.reduceAdd, reduceIte, Nat.reduceLeDiff, splice, r0, r1, r7, r32, r34, d1, d3, d4, hg3, nn, dd, lcells_length, lcells_take, ak, hbH3, n3]
      obtain ⟨G1, hG1⟩ : ∃ h, h = (H3.push (.cells [.int .i64 0, .slice none 0 0, .slice none 0 0, .int .i64 0, .int .i64 0, .int .i64 0, .int .i64 0, .int .i64 0, .bool false, .int .i64 0] T_api_Form false)).set H3.next (.cells x.cells T_api_Form false) := ⟨_, rfl⟩
      have hwG1 : G1.Wf := by rw [hG1]; exact (hw3.push _).set (by rw [Heap.get_push, if_pos rfl]) _
      have hxG1 : Ext H3 G1 := by rw [hG1]; exact ((Ext.refl H3).push _).set (Nat.le_refl _) _
      have hgG1 : G1.get H3.next = some (.cells x.cells T_api_Form false) := by rw [hG1, Heap.get_set, if_pos rfl]
      have hnG1 : G1.next = H3.next + 1 := by rw [hG1]; rfl
      simp only [← hG1]
      refine (q_decode_takes x d c G1 (wk.ext hw3 hxG1)).thenW ?_
      rintro _ G2 hn4 hw4 ⟨rfl, m4, rfl⟩
      simp only [Heap.next_up] at hn4
      have hxG2 : Ext H3 (G1.up m4) := hxG1.up hn4
      have hgG2 : (G1.up m4).get H3.next = some (.cells x.cells T_api_Form false) := by rw [Heap.get_up]; exact hgG1
      have hnG2 : H3.next + 1 ≤ (G1.up m4).next := by simp only [Heap.next_up]; omega
      generalize G1.up m4 = G2 at hw4 hxG2 hgG2 hnG2
      have hfil : ((ys.take (k + 1)).map (·.f)).filter (fun f => takesF f d c) = ((ys.take k).map (·.f)).filter (fun f => takesF f d c) ++ bif takesF x.f d c then [x.f] else [] := by
        rw [hxtk, List.map_append, List.filter_append]
        cases hpx : takesF x.f d c <;> simp [hpx]
      have hmG2 : G2.get H.next = some (.map []) := by rw [hxG2.get _ (hw3.lt hm3)]; exact hm3
      have hbG2 : G2.get (H.next + 1) = some (.cells [.int .i64 ((d + 1 : Nat) : Int), av, .map (some H.next)] T_decode_node false) := by rw [hxG2.get _ (hw3.lt hb3)]; exact hb3
      simp only [sxA, sxB, Nat.reduceBEq, Nat.reduceEqDiff, reduceCtorEq, mxA, mxB, Nat.reduceAdd, reduceIte, Nat.reduceLeDiff, splice]
      cases hpx : takesF x.f d c
      · rw [hpx] at hfil
        simp only [sxA, sxB, Nat.reduceBEq, Nat.reduceEqDiff, reduceCtorEq, mxA, mxB, Nat.reduceAdd, reduceIte, Nat.reduceLeDiff, splice, r34, ek]
        refine ⟨ys.length - (k + 1), by omega, k + 1, zs, av, by omega, rfl, hw4, hx3.trans hxG2, by omega, hmG2, hbG2, hac3.ext hw3 hxG2, by rw [hfil, hzs]; simp, by omega, hzy, ?_, ?_, ?_, ?_, ?_, ?_⟩
        all_goals simp only [uxA, uxB, Nat.reduceBEq, r0, r1, r7, r32, r33]
      · rw [hpx] at hfil
        have n5 : ¬ H.next + 1 = G2.next := by omega
        simp only [sxA, sxB, Nat.reduceBEq, Nat.reduceEqDiff, reduceCtorEq, mxA, mxB, Nat.reduceAdd, reduceIte, Nat.reduceLeDiff, splice, r7, hgG2, hbG2, lcells_length, lcells_take, ak, n5]
        have hx5 : Ext H3 (G2.push (.cells x.cells T_api_Form false)) := hxG2.push _
        have hac5 := hac3.ext hw3 hx5
        refine Acc.app2 hac5 (by simp only [Heap.next_push]; omega) (hw4.push _) (wk.ext hw3 hx5) (by omega) (by rw [Heap.get_push, if_pos rfl]) (fun a l c' hv e => ?_) fun v' H6 y2 y3 y4 y5 y6 => ?_
        · rcases hac3 with ⟨h, _⟩ | ⟨b2, h, _, h3', _⟩
          · rw [h] at hv; cases hv
          · rw [h] at hv; cases hv
            have := hw3.lt h3'
            simp only at e
            omega
        · obtain ⟨a6, l6, c6, rfl, hb6⟩ := y5
          simp only [Heap.next_push] at y3 hb6
          have hav : ∀ id, id < H1.next → ∀ a l c, av = .slice (some a) l c → id ≠ a.block := fun id hid a l c e => by
            rcases hac3 with ⟨h, _⟩ | ⟨b2, h, h2, _⟩
            · rw [h] at e; cases e
            · rw [h] at e; cases e
              simp only
              omega
          have hb7 : H6.get (H.next + 1) = some (.cells [.int .i64 ((d + 1 : Nat) : Int), av, .map (some H.next)] T_decode_node false) := by
            rw [y6 _ (by simp only [Heap.next_push]; omega) (hav _ (by omega)), Heap.get_push, if_neg n5]; exact hbG2
          have hm7 : H6.get H.next = some (.map []) := by
            rw [y6 _ (by simp only [Heap.next_push]; omega) (hav _ (by omega)), Heap.get_push, if_neg (by omega)]; exact hmG2
          have hx7 : Ext H H6 := ⟨by have := hx3.next; omega, fun id hid => by
            rw [y6 _ (by simp only [Heap.next_push]; omega) (hav _ (by omega)), Heap.get_push, if_neg (by omega), hxG2.get _ (by have := hx3.next; omega)]
            exact hx3.get _ hid⟩
          simp only [sxA, sxB, Nat.reduceBEq, Nat.reduceEqDiff, reduceCtorEq, mxA, mxB, Nat.reduceAdd, reduceIte, Nat.reduceLeDiff, splice, r34, ek, hb7]
          refine ⟨ys.length - (k + 1), by omega, k + 1, zs ++ [x], .slice (some a6) l6 c6, by omega, rfl, y2.set hb7 _, hx7.set (by omega) _, by simp only [Heap.next_set]; omega, by rw [Heap.get_set, if_neg (by omega)]; exact hm7, by rw [Heap.get_set, if_pos rfl], ?_, by rw [hfil, List.map_append, hzs]; simp, by simp; omega, ?_, ?_, ?_, ?_, ?_, ?_, ?_⟩
          · rcases y4 with ⟨h, _⟩ | ⟨b8, h, g1, g2, g3, g4⟩
            · cases h
            · refine .inr ⟨b8, h, g1, ?_, g3, fun y hy => ?_⟩
              · rw [Heap.get_set, if_neg (by omega)]; exact g2
              · have hq := g4 y hy
                have keep : ∀ (s : Value) (l : List Int), IsSl H6 s l.length (ints l) → IsSl (H6.set (H.next + 1) (.cells [.int .i64 ((d + 1 : Nat) : Int), .slice (some a6) l6 c6, .map (some H.next)] T_decode_node false)) s l.length (ints l) := fun s l h => by
                  obtain ⟨a, cp, rfl, h1⟩ := h
                  refine ⟨a, cp, rfl, fun hn => ?_⟩
                  obtain ⟨bb, ee, rr, rfl, hbb⟩ := h1 hn
                  refine ⟨bb, ee, rr, rfl, ?_⟩
                  rw [Heap.get_set, if_neg (fun e => ?_)]
                  · exact hbb
                  · subst e
                    rw [hb7] at hbb
                    simp only [Option.some.injEq, Blk.cells.injEq] at hbb
                    have h2 : (ints l)[2]? = some (.map (some H.next)) := by rw [← hbb.1]; rfl
                    unfold ints at h2
                    rw [List.getElem?_map] at h2
                    cases hl2 : l[2]? with
                    | none => rw [hl2] at h2; cases h2
                    | some z => rw [hl2] at h2; cases h2
                exact ⟨hq.1, hq.2.1, keep _ _ hq.2.2.1, keep _ _ hq.2.2.2⟩
          · intro z hz
            simp only [List.mem_append, List.mem_singleton] at hz
            rcases hz with hz | rfl
            · exact hzy z hz
            · exact hym
          all_goals simp only [uxA, uxB, Nat.reduceBEq, r0, r1, r7, r32, r33]
    · have h3 : k = ys.length := by have := of_decide_eq_false h3; omega
      subst h3
      have hmbH3 : H3.get mb = some (.map []) := by rw [hx3.get _ hmbl]; exact hmb
      simp only [sxA, sxB, Nat.reduceBEq, Nat.reduceEqDiff, reduceCtorEq, mxA, mxB, Nat.reduceAdd, reduceIte, Nat.reduceLeDiff, splice, r0, r1, r7, hbH3]
      rw [gen_put0 (m := mb) ty1 ty2 (by simp only [uxA, uxB, Nat.reduceBEq]) (by simp only [uxA, uxB, Nat.reduceBEq]; exact ty5 c) hmbH3]
      simp only [sxA, sxB, Nat.reduceBEq, Nat.reduceEqDiff, reduceCtorEq, mxA, mxB, Nat.reduceAdd, reduceIte, Nat.reduceLeDiff, splice, r7, ret_decode_node_child]
      have hx03 := hx0.trans hx3
      rw [List.take_of_length_le (Nat.le_refl _)] at hzs
      refine .mk (by simp only [Heap.next_set]; exact hx3.next) ⟨hx03.set hmb0 _, zs, hzs, ⟨H.next + 1, H.next, av, rfl, by have := hx0.next; omega, hx0.next, ?_, ?_, (hac3.mono (by have := hx0.next; omega)).setMap hmbH3⟩, hzl, hzy⟩
      · rw [Heap.get_set, if_neg (by omega)]; exact hb3
      · rw [Heap.get_set, if_neg (by omega)]; exact hm3

def bytesV (l : List Int) : List Value := l.map (.int .u8 ·)
def BsAt (H : Heap) (v : Value) (bs : List Int) : Prop := ∃ a cap, v = .slice a bs.length cap ∧ (0 < bs.length → ∃ b o c e ro, a = some ⟨b, o, none⟩ ∧ H.get b = some (.cells c e ro) ∧ ∀ i, i < bs.length → c[o + i]? = some (.int .u8 (bs.getD i 0)))
theorem BsAt.ext {H H' : Heap} {v : Value} {bs : List Int} (hw : H.Wf) (he : Ext H H') (h : BsAt H v bs) : BsAt H' v bs := by
  obtain ⟨a, cap, rfl, h1⟩ := h
  refine ⟨a, cap, rfl, fun hn => ?_⟩
  obtain ⟨b, o, c, e, ro, rfl, hb, hc⟩ := h1 hn
  exact ⟨b, o, c, e, ro, rfl, by rw [he.get b (hw.lt hb)]; exact hb, hc⟩

def isRex (c : Int) : Bool := IntKind.u8.wrap (BitVec.ofInt IntKind.u8.bits c &&& BitVec.ofInt IntKind.u8.bits 240).toNat == 64
def findGo : List Int → Bool → Nat → List Fm → List Fm
  | [], _, _, L => L
  | c :: cs, ah, d, L => bif openF d L then (bif ah && isRex c then findGo cs false d L else findGo cs (ah && ((c == 102) || (c == 242) || (c == 243))) (d + 1) (L.filter fun f => takesF f d c)) else L

theorem q_decode_find {T : Heap → Prop} {L : List Fm} (hR : ∀ H, T H → CallQ prog f_table_Rows [] H fun u H' => Told H H' u L) (hty : MapTy TM_p_decode_node) (va : Value) (bs : List Int) (H : Heap) (ht : T H) (hb : BsAt H va bs) (hbl : bs.length ≤ 100000) : CallQ prog f_decode_find [va] H fun u H' => Told H H' u (findGo bs true 0 L) := by
  refine in_decode_find fun hw => ?_
  simp only [pc_decode_find, sxA, sxB, Nat.reduceBEq, Nat.reduceEqDiff, reduceCtorEq, mxA, mxB, Nat.reduceAdd, reduceIte, Nat.reduceLeDiff, splice]
  refine (q_decode_trie hR H ht).thenW ?_
  rintro nv H1 hn1 hw1 ⟨hx1, ys, e1, hN, hl, hf⟩
  obtain ⟨aa, cap, rfl, hsl⟩ := id hb
  simp only [sxA, sxB, Nat.reduceBEq, Nat.reduceEqDiff, reduceCtorEq, mxA, mxB, Nat.reduceAdd, reduceIte, Nat.reduceLeDiff, splice]
  refine loop_intro (fun m A' H' => ∃ (i : Nat) (ah : Bool) (d : Nat) (zs : List Lf), i ≤ bs.length ∧ m = bs.length - i ∧ H'.Wf ∧ Ext H H' ∧ Node H H' (A' 3) d zs ∧ findGo (bs.drop i) ah d (zs.map (·.f)) = findGo bs true 0 L ∧ d ≤ i ∧ zs.length ≤ 6000 ∧ (∀ z ∈ zs, z.Fr H.next) ∧
      A' 4 = .bool ah ∧ A' 8 = .slice aa bs.length cap ∧ A' 9 = .int .i64 bs.length ∧ A' 10 = .int .i64 i) bs.length ?_ ?_
  · refine ⟨0, true, 0, ys, Nat.zero_le _, by omega, hw1, hx1, ?_, by rw [List.drop_zero, e1], Nat.le_refl _, hl, hf, ?_, ?_, ?_, ?_⟩
    all_goals simp only [uxA, uxB, Nat.reduceBEq]
    · exact hN
    rfl
  · rintro m A' H3 ⟨i, ah, d, zs, hi, rfl, hw3, hx3, hN3, hgo, hdi, hzl, hzf, r4, r8, r9, r10⟩
    simp only [sxA, sxB, Nat.reduceBEq, Nat.reduceEqDiff, reduceCtorEq, mxA, mxB, Nat.reduceAdd, reduceIte, Nat.reduceLeDiff, splice, r9, r10]
    refine cB_cases (fun h3 => ?_) (fun h3 => ?_)
    · have h3 : i < bs.length := by have := of_decide_eq_true h3; omega
      obtain ⟨b1, o1, c1, ee1, ro1, rfl, hg1, hc1⟩ := hsl (by omega)
      have hg3 : H3.get b1 = some (.cells c1 ee1 ro1) := by rw [hx3.get _ (hw.lt hg1)]; exact hg1
      have d1 : (0 : Int) ≤ i ∧ (i : Int) < bs.length := by omega
      have d3 : (i : Int).toNat = i := by omega
      have ek : IntKind.i64.wrap ((i : Int) + 1) = ((i + 1 : Nat) : Int) := by rw [w64 (by unfold I64; omega)]; omega
      have hci := hc1 i h3
      have hdr : bs.drop i = bs.getD i 0 :: bs.drop (i + 1) := by
        rw [List.drop_eq_getElem_cons h3]
        simp [List.getD, List.getElem?_eq_getElem h3]
      rw [hdr, findGo] at hgo
      generalize bs.getD i 0 = c at hci hgo hdr
      simp only [sxA, sxB, Nat.reduceBEq, Nat.reduceEqDiff, reduceCtorEq, mxA, mxB, Nat.reduceAdd, reduceIte, Nat.reduceLeDiff, splice, r8, r10, d1, d3, hg3, hci]
      refine (q_decode_open hN3 hzl).thenW ?_
      rintro _ _ hn4 hw4 ⟨rfl, m4, rfl⟩
      simp only [Heap.next_up] at hn4
      have hxu : Ext H3 (H3.up m4) := (Ext.refl H3).up hn4
      have hN4 : Node H (H3.up m4) (A' 3) d zs := by
        obtain ⟨b, mb, fv, g1, g2, g3, g4, g5, g6⟩ := hN3
        exact ⟨b, mb, fv, g1, g2, g3, by rw [Heap.get_up]; exact g4, by rw [Heap.get_up]; exact g5, g6.ext hw3 hxu⟩
      have hx4 := hx3.trans hxu
      generalize H3.up m4 = H4 at hw4 hxu hN4 hx4
      simp only [sxA, sxB, Nat.reduceBEq, Nat.reduceEqDiff, reduceCtorEq, mxA, mxB, Nat.reduceAdd, reduceIte, Nat.reduceLeDiff, splice]
      cases hop : openF d (zs.map (·.f)) with
      | false =>
        rw [hop, cond_false] at hgo
        obtain ⟨b, mb, fv, e3, hb0, hmb0, hgb, hmb, ha⟩ := hN4
        simp only [sxA, sxB, Nat.reduceBEq, Nat.reduceEqDiff, reduceCtorEq, mxA, mxB, Nat.reduceAdd, reduceIte, Nat.reduceLeDiff, splice, e3, hgb, ret_decode_find]
        exact .mk hx4.next ⟨hx4, zs, hgo, ha, hzl, hzf⟩
      | true =>
        rw [hop, cond_true] at hgo
        simp only [sxA, sxB, Nat.reduceBEq, Nat.reduceEqDiff, reduceCtorEq, mxA, mxB, Nat.reduceAdd, reduceIte, Nat.reduceLeDiff, splice, r4]
        have rexd : (IntKind.u8.wrap (BitVec.ofInt IntKind.u8.bits c &&& BitVec.ofInt IntKind.u8.bits 240).toNat == 64) = isRex c := rfl
        cases ah with
        | true =>
          simp only [Bool.true_and] at hgo
          simp only [sxA, sxB, Nat.reduceBEq, Nat.reduceEqDiff, reduceCtorEq, mxA, mxB, Nat.reduceAdd, reduceIte, Nat.reduceLeDiff, splice, rexd]
          cases hrx : isRex c with
          | true =>
            rw [hrx, cond_true] at hgo
            simp only [sxA, sxB, Nat.reduceBEq, Nat.reduceEqDiff, reduceCtorEq, mxA, mxB, Nat.reduceAdd, reduceIte, Nat.reduceLeDiff, splice, r10, ek]
            refine ⟨bs.length - (i + 1), by omega, i + 1, false, d, zs, by omega, rfl, hw4, hx4, ?_, hgo, by omega, hzl, hzf, ?_, ?_, ?_, ?_⟩
            all_goals simp only [uxA, uxB, Nat.reduceBEq, r8, r9]
            exact hN4
          | false =>
            rw [hrx, cond_false] at hgo
            cases q1 : c == 102 <;> cases q2 : c == 242 <;> cases q3 : c == 243 <;> simp only [sxA, sxB, Nat.reduceBEq, Nat.reduceEqDiff, reduceCtorEq, mxA, mxB, Nat.reduceAdd, reduceIte, Nat.reduceLeDiff, splice, r4, q1, q2, q3]
            all_goals
              rw [q1, q2, q3] at hgo
              simp only [Bool.or_false, Bool.or_true, Bool.false_or, Bool.true_or, Bool.or_self] at hgo
              refine (q_decode_child hty hN4 hx4 hzl (by omega) c).thenW ?_
              rintro v6 H6 hn6 hw6 ⟨hx6, zs2, hz2, hN6, hl6, hs6⟩
              simp only [sxA, sxB, Nat.reduceBEq, Nat.reduceEqDiff, reduceCtorEq, mxA, mxB, Nat.reduceAdd, reduceIte, Nat.reduceLeDiff, splice, r10, ek]
              refine ⟨bs.length - (i + 1), by omega, i + 1, _, d + 1, zs2, by omega, rfl, hw6, hx6, ?_, by rw [hz2]; exact hgo, by omega, by omega, fun z hz => hzf z (hs6 z hz), ?_, ?_, ?_, ?_⟩
              all_goals simp only [uxA, uxB, Nat.reduceBEq, r8, r9]
              first | exact hN6 | rfl
        | false =>
          simp only [Bool.false_and, cond_false] at hgo
          simp only [sxA, sxB, Nat.reduceBEq, Nat.reduceEqDiff, reduceCtorEq, mxA, mxB, Nat.reduceAdd, reduceIte, Nat.reduceLeDiff, splice, r4]
          refine (q_decode_child hty hN4 hx4 hzl (by omega) c).thenW ?_
          rintro v6 H6 hn6 hw6 ⟨hx6, zs2, hz2, hN6, hl6, hs6⟩
          simp only [sxA, sxB, Nat.reduceBEq, Nat.reduceEqDiff, reduceCtorEq, mxA, mxB, Nat.reduceAdd, reduceIte, Nat.reduceLeDiff, splice, r10, ek]
          refine ⟨bs.length - (i + 1), by omega, i + 1, _, d + 1, zs2, by omega, rfl, hw6, hx6, ?_, by rw [hz2]; exact hgo, by omega, by omega, fun z hz => hzf z (hs6 z hz), ?_, ?_, ?_, ?_⟩
          all_goals simp only [uxA, uxB, Nat.reduceBEq, r8, r9]
          first | exact hN6 | rfl
    · have h3 : i = bs.length := by have := of_decide_eq_false h3; omega
      subst h3
      rw [List.drop_of_length_le (Nat.le_refl _), findGo] at hgo
      obtain ⟨b, mb, fv, e3, hb0, hmb0, hgb, hmb, ha⟩ := hN3
      simp only [sxA, sxB, Nat.reduceBEq, Nat.reduceEqDiff, reduceCtorEq, mxA, mxB, Nat.reduceAdd, reduceIte, Nat.reduceLeDiff, splice, e3, hgb, ret_decode_find]
      exact .mk hx3.next ⟨hx3, zs, hgo, ha, hzl, hzf⟩
end Go.Proofs.YtbkbdnlfkahaaaaGreatDoor.code
/- decode.find as a known call of closed runs. -/
set_option linter.unusedVariables false
set_option linter.unusedSimpArgs false
set_option maxRecDepth 100000
namespace Go.Proofs.YtbkbdnlfkahaaaaGreatDoor.code
open Go.Ab

noncomputable def byteOf : Value → Option Int
  | .int .u8 n => some n
  | _ => none
noncomputable def bytesOf : List Value → Option (List Int)
  | [] => some []
  | v :: l => match byteOf v, bytesOf l with
    | some n, some r => some (n :: r)
    | _, _ => none
theorem bytesOf_eq : ∀ {l : List Value} {bs : List Int}, bytesOf l = some bs → l = bytesV bs
  | [], bs, h => by cases h; rfl
  | v :: l, bs, h => by
    unfold bytesOf at h
    cases h1 : byteOf v with
    | none => rw [h1] at h; cases h
    | some n =>
      cases h2 : bytesOf l with
      | none => rw [h1, h2] at h; cases h
      | some r =>
        rw [h1, h2] at h
        cases h
        rw [bytesOf_eq h2]
        unfold byteOf at h1
        split at h1
        · cases h1; rfl
        · cases h1
noncomputable def tauB (G b id : Nat) : Nat := bif Nat.beq id G then b else id

theorem tauB_eq (G b : Nat) : tauB G b G = b := by unfold tauB; rw [nbeq]; simp
theorem tauB_ne {G b id : Nat} (h : ¬ id = G) : tauB G b id = id := by unfold tauB; rw [nbeq]; simp [h]
theorem sigB (G b : Nat) : sigmaT (tauB G b) (G + 1) G = some b := by unfold sigmaT; rw [blt_dec, tauB_eq]; simp
theorem mt_sl {σ : Nat → Option Nat} {a b o n cap : Nat} (h : σ a = some b) : mtV σ 6 (.slice (some ⟨b, o, none⟩) n cap) (.slice (some ⟨a, o, none⟩) n cap) = true := by
  show (isId (σ a) b && Nat.beq o o && noSpot ⟨a, o, none⟩ && Nat.beq n n && Nat.beq cap cap) = true
  rw [h]
  simp [isId, noSpot]
noncomputable def findKn (tabs : List Tab) (L : List Fm) : CallF := fun f args H =>
  bif Nat.beq f f_decode_find then (match args with
    | [.slice none 0 0] => picKn tabs (findGo [] true 0 L) H
    | [.slice (some a) n cap] => (match H.get a.block with
      | some (.cells c e ro) => (match bytesOf ((c.drop a.off).take n) with
        | some bs => bif tabsIn tabs H && (noSpot a && (c.all plain && (Nat.beq bs.length n && Nat.ble n 100000))) then
            some (shW (shM (tauB prog.globals.size a.block) (prog.globals.size + 1) H.next) 6 (canV (prog.globals.size + 1) (findGo bs true 0 L)), pushW (shM (tauB prog.globals.size a.block) (prog.globals.size + 1) H.next) (canRows (prog.globals.size + 1) (findGo bs true 0 L)) H) else none
        | none => none)
      | _ => none)
    | _ => none) else none

theorem findKn_ok {tabs : List Tab} (ht : tabsOk tabs = true) (htab : ∀ t ∈ tabs, t.id < prog.globals.size) (hwf : (tabHeap prog.globals.size tabs).Wf) (htt : TabT tabs (tabHeap prog.globals.size tabs)) {L : List Fm} (hR : ∀ H, TabT tabs H → CallQ prog f_table_Rows [] H fun u H' => Told H H' u L) (hty : MapTy TM_p_decode_node)
    (he : entered prog f_decode_find = true) : CallOk prog (findKn tabs L) := by
  intro f args H v H' h
  unfold findKn at h
  cases b1 : Nat.beq f f_decode_find with
  | false => rw [b1, cond_false] at h; cases h
  | true =>
    rw [b1, cond_true] at h
    have := Nat.eq_of_beq_eq_true b1
    subst this
    split at h
    · exact picKn_ok ht htab hwf htt he rfl (fun H hT => q_decode_find hR hty (.slice none 0 0) [] H hT ⟨none, 0, rfl, fun h => by simp at h⟩ (by simp)) h
    · rename_i a n cap
      split at h
      · rename_i c e ro hg
        split at h
        · rename_i bs hbs
          replace hbs := bytesOf_eq hbs
          cases hcnd : (tabsIn tabs H && (noSpot a && (c.all plain && (Nat.beq bs.length n && Nat.ble n 100000)))) with
          | false => rw [hcnd] at h; cases h
          | true =>
            rw [hcnd] at h
            simp only [cond_true, Option.some.injEq, Prod.mk.injEq] at h
            obtain ⟨rfl, rfl⟩ := h
            simp only [Bool.and_eq_true, nbeq, decide_eq_true_eq, Nat.ble_eq] at hcnd
            obtain ⟨c1, c2, c3, c4, c5⟩ := hcnd
            obtain ⟨ab, ao, asp⟩ := a
            have c2 := noSpot_eq c2
            simp only at c2 hbs hg
            subst c2
            subst c4
            refine .inl ⟨he, ?_⟩
            have hB : ((tabHeap prog.globals.size tabs).push (.cells c e true)).next = prog.globals.size + 1 := rfl
            have hgB : ((tabHeap prog.globals.size tabs).push (.cells c e true)).get prog.globals.size = some (.cells c e true) := by
              rw [Heap.get_push, if_pos (show prog.globals.size = (tabHeap prog.globals.size tabs).next from rfl)]
            have hwB := hwf.push (.cells c e true)
            have hTB := tabT_ext _ _ hwf htt ((Ext.refl (tabHeap prog.globals.size tabs)).push (.cells c e true))
            have hba : BsAt ((tabHeap prog.globals.size tabs).push (.cells c e true)) (.slice (some ⟨prog.globals.size, ao, none⟩) bs.length cap) bs := by
              refine ⟨_, _, rfl, fun _ => ⟨_, _, c, e, true, rfl, hgB, fun i hi => ?_⟩⟩
              have : ((c.drop ao).take bs.length)[i]? = some (.int .u8 (bs.getD i 0)) := by
                rw [hbs]
                simp [bytesV, List.getD, List.getElem?_eq_getElem hi]
              rw [List.getElem?_take, if_pos hi, List.getElem?_drop] at this
              exact this
            obtain ⟨u, H1, hc, _, _, hx, ys, hy1, hy2, _, hy3⟩ := q_decode_find hR hty _ bs _ hTB hba c5 hwB
            have hd := hc.does he
            have hp := pic_forms hB hy2 hy3
            rw [hy1] at hp
            refine pic_does (B := (tabHeap prog.globals.size tabs).push (.cells c e true)) hd (by rw [hB]; omega) (fun g hgl => ?_) hp (canV_ok _ _) (canRows_ok _ _) H (fun id b hb => ?_) ?_
            · exact tauB_ne (by omega)
            · rw [Heap.get_push] at hb
              by_cases hid : id = (tabHeap prog.globals.size tabs).next
              · rw [if_pos hid] at hb
                cases hb
                refine ⟨c, e, c, e, ro, rfl, ?_, rfl, fun j x y hx hy => ?_⟩
                · have : id = prog.globals.size := hid
                  rw [this, tauB_eq]
                  exact hg
                · rw [hx] at hy
                  cases hy
                  exact Seen.plain (List.all_eq_true.1 c3 x (List.mem_of_getElem? hx))
              · rw [if_neg hid] at hb
                have hg' := tabsIn_get c1 id b hb
                obtain ⟨t, ht1, rfl, rfl⟩ := tabHeap_get hb
                have hne : ¬ t.id = prog.globals.size := hid
                refine ⟨t.c, t.e, t.c, t.e, true, rfl, ?_, rfl, fun j x y hx hy => ?_⟩
                · rw [tauB_ne hne]
                  exact hg'
                · rw [hx] at hy
                  cases hy
                  exact Seen.plain (List.all_eq_true.1 (List.all_eq_true.1 ht t ht1) x (List.mem_of_getElem? hx))
            · show (mtV (sigmaT (tauB prog.globals.size ab) (prog.globals.size + 1)) 6 (.slice (some ⟨ab, ao, none⟩) bs.length cap) (.slice (some ⟨prog.globals.size, ao, none⟩) bs.length cap) && true) = true
              rw [mt_sl (sigB _ _)]
              rfl
        · cases h
      · cases h
    · cases h
end Go.Proofs.YtbkbdnlfkahaaaaGreatDoor.code
