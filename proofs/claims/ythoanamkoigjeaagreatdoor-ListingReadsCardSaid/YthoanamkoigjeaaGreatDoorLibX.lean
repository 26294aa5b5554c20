/- linotypekit: SameImage, OverImage; the law's longLines. -/
import Derived.Test.YthoanamkoigjeaaGreatDoorLibT
import Derived.Test.YthoanamkoigjeaaGreatDoorAbH
set_option linter.unusedVariables false
set_option linter.unusedSimpArgs false
set_option maxRecDepth 100000
set_option maxHeartbeats 4000000
namespace Go.Proofs.YthoanamkoigjeaaGreatDoor.code
open Go.Ab

theorem Gs.cells {size : Nat} {e : TypeId} {H0 H : Heap} {v : Value} {n : Nat} {cs : List Value} (h : Gs size e H0 H v n cs) : sliceCells size v H = some cs := by
  rcases h with ⟨rfl, rfl, rfl⟩ | ⟨b, rfl, h2, h3, h4⟩
  · rfl
  · by_cases h0 : n = 0
    · subst h0
      have : cs = [] := List.length_eq_zero_iff.1 (by omega)
      subst this
      simp [sliceCells]
    · simp only [sliceCells, h0, if_false, h3]
      rw [if_pos (by omega), List.drop_zero, List.take_of_length_le (by omega)]
theorem q_SameBytes {H0 H1 : Heap} (va vb : Value) (l : List UInt8) (H : Heap) (ha : Gs 1 5 H0 H va l.length (u8v l)) (hb : Gs 1 5 H1 H vb l.length (u8v l)) : CallQ prog f_linotypekit_SameBytes [va, vb] H fun u H' => u = .bool true ∧ H' = H := by
  refine in_linotypekit_SameBytes fun hw => ?_
  have ca := ha.cells
  have cb := hb.cells
  obtain ⟨aa, ac, rfl⟩ := ha.sl
  obtain ⟨ba, bc, rfl⟩ := hb.sl
  simp only [pc_linotypekit_SameBytes, sxA, sxB, Nat.reduceBEq, Nat.reduceEqDiff, reduceCtorEq, mxA, mxB, Nat.reduceAdd, reduceIte, Nat.reduceLeDiff, splice]
  rw [gen_toStr (a := aa) (n := l.length) (c := ac) (bs := l) (by kernel_rfl) (by simp only [uxA, uxB, Nat.reduceBEq]) ca (bytesIn_u8v l)]
  simp only [sxA, sxB, Nat.reduceBEq, Nat.reduceEqDiff, reduceCtorEq, mxA, mxB, Nat.reduceAdd, reduceIte, Nat.reduceLeDiff, splice]
  rw [gen_toStr (a := ba) (n := l.length) (c := bc) (bs := l) (by kernel_rfl) (by simp only [uxA, uxB, Nat.reduceBEq]) cb (bytesIn_u8v l)]
  simp only [sxA, sxB, Nat.reduceBEq, Nat.reduceEqDiff, reduceCtorEq, mxA, mxB, Nat.reduceAdd, reduceIte, Nat.reduceLeDiff, splice, beq_self_eq_true, ret_linotypekit_SameBytes]
  exact .mk (Nat.le_refl _) ⟨rfl, rfl⟩
theorem symC_at3 {l : List Sy} {i : Nat} {m : Sy} (h : l[i]? = some m) : (symC l)[i * 3 + 0]? = some (.string (mkS m.name)) ∧ (symC l)[i * 3 + 1]? = some (.int .i64 m.n) ∧ (symC l)[i * 3 + 2]? = some (.bool m.here) := by
  induction l generalizing i with
  | nil => simp at h
  | cons a l ih =>
    have e : symC (a :: l) = a.cells ++ symC l := rfl
    cases i with
    | zero => simp at h; subst h; exact ⟨rfl, rfl, rfl⟩
    | succ i =>
      have hl : a.cells.length = 3 := rfl
      rw [e, List.getElem?_append_right (by omega), List.getElem?_append_right (by omega), List.getElem?_append_right (by omega), hl, show (i + 1) * 3 + 0 - 3 = i * 3 + 0 by omega, show (i + 1) * 3 + 1 - 3 = i * 3 + 1 by omega, show (i + 1) * 3 + 2 - 3 = i * 3 + 2 by omega]
      exact ih (by simpa using h)
theorem symC_take {l : List Sy} {i : Nat} {m : Sy} (h : l[i]? = some m) : ((symC l).drop (i * 3)).take 3 = m.cells := by
  induction l generalizing i with
  | nil => simp at h
  | cons a l ih =>
    have e : symC (a :: l) = a.cells ++ symC l := rfl
    have hl : a.cells.length = 3 := rfl
    cases i with
    | zero => simp at h; subst h; rfl
    | succ i =>
      rw [e, List.drop_append, hl, show (i + 1) * 3 - 3 = i * 3 by omega, List.drop_eq_nil_of_le (by omega), List.nil_append]
      exact ih (by simpa using h)
theorem markC_take {l : List Mk} {i : Nat} {m : Mk} (h : l[i]? = some m) : ((markC l).drop (i * 3)).take 3 = m.cells := by
  induction l generalizing i with
  | nil => simp at h
  | cons a l ih =>
    have e : markC (a :: l) = a.cells ++ markC l := rfl
    have hl : a.cells.length = 3 := rfl
    cases i with
    | zero => simp at h; subst h; rfl
    | succ i =>
      rw [e, List.drop_append, hl, show (i + 1) * 3 - 3 = i * 3 by omega, List.drop_eq_nil_of_le (by omega), List.nil_append]
      exact ih (by simpa using h)
theorem eqSy (y : Sy) : eqCells [.s, .i, .b] y.cells.toArray y.cells.toArray 0 = some true := by
  refine (eqCells_step (a := .string (mkS y.name)) (b := .string (mkS y.name)) (p := true) (q := true) rfl rfl (by simp [eqSk]) ?_)
  refine (eqCells_step (a := .int .i64 y.n) (b := .int .i64 y.n) (p := true) (q := true) rfl rfl (by simp [eqSk]) ?_)
  refine (eqCells_step (a := .bool y.here) (b := .bool y.here) (p := true) (q := true) rfl rfl (by simp [eqSk]) ?_)
  rfl
theorem eqMk (y : Mk) : eqCells [.i, .i, .i] y.cells.toArray y.cells.toArray 0 = some true := by
  refine (eqCells_step (a := .int .i64 y.line) (b := .int .i64 y.line) (p := true) (q := true) rfl rfl (by simp [eqSk]) ?_)
  refine (eqCells_step (a := .int .i64 y.at_) (b := .int .i64 y.at_) (p := true) (q := true) rfl rfl (by simp [eqSk]) ?_)
  refine (eqCells_step (a := .int .i64 y.size) (b := .int .i64 y.size) (p := true) (q := true) rfl rfl (by simp [eqSk]) ?_)
  rfl
theorem q_SameSymbols (va vb : Value) (l : List Sy) (hn : l.length ≤ 1000000) (H : Heap) (ha : IsSl H va l.length (symC l)) (hb : IsSl H vb l.length (symC l)) : CallQ prog f_linotypekit_SameSymbols [va, vb] H fun u H' => u = .bool true ∧ H' = H := by
  refine in_linotypekit_SameSymbols fun hw => ?_
  obtain ⟨aa, ac, rfl, ha⟩ := ha
  obtain ⟨ba, bc, rfl, hb⟩ := hb
  simp only [pc_linotypekit_SameSymbols, sxA, sxB, Nat.reduceBEq, Nat.reduceEqDiff, reduceCtorEq, mxA, mxB, Nat.reduceAdd, reduceIte, Nat.reduceLeDiff, splice, Zdi, beq_self_eq_true, pc_linotypekit_SameSymbols_3]
  refine loop_intro (fun m A' H' => ∃ i : Nat, i ≤ l.length ∧ m = l.length - i ∧ H' = H ∧ A' 0 = .slice aa l.length ac ∧ A' 1 = .slice ba l.length bc ∧ A' 5 = .int .i64 i) l.length ?_ ?_
  · refine ⟨0, Nat.zero_le _, rfl, rfl, ?_, ?_, ?_⟩
    all_goals simp only [uxA, uxB, Nat.reduceBEq]
    all_goals rfl
  · rintro m A' H' ⟨i, hi, rfl, hEq, r0, r1, r5⟩
    subst hEq
    by_cases h2 : i < l.length
    · have e1 : decide ((i : Int) < (l.length : Int)) = true := decide_eq_true (by omega)
      have c1 : (0 : Int) ≤ (i : Int) ∧ (i : Int) < (l.length : Int) := by omega
      have u1 : (i : Int).toNat = i := Int.toNat_natCast _
      have ei : IntKind.i64.wrap ((i : Int) + 1) = ((i + 1 : Nat) : Int) := by rw [w64 (by unfold I64; omega)]; rfl
      obtain ⟨b1, e1', ro1, rfl, hg1⟩ := ha (by omega)
      obtain ⟨b2, e2', ro2, rfl, hg2⟩ := hb (by omega)
      have p1 := List.getElem?_eq_getElem h2
      generalize l[i] = y at *
      have t1 := symC_take p1
      have hle : i * 3 + 3 ≤ (symC l).length := by rw [symC_len]; omega
      simp only [pc_linotypekit_SameSymbols_2, pc_linotypekit_SameSymbols_1, sxA, sxB, Nat.reduceBEq, Nat.reduceEqDiff, reduceCtorEq, mxA, mxB, Nat.reduceAdd, reduceIte, Nat.reduceLeDiff, splice, syA, r0, r1, r5, e1, c1, decide_true, u1, hg1, hg2, t1, hle]
      rw [eqsK_some (eqSy y)]
      simp only [sxA, sxB, Nat.reduceBEq, Nat.reduceEqDiff, reduceCtorEq, mxA, mxB, Nat.reduceAdd, reduceIte, Nat.reduceLeDiff, splice, r5, ei, cond_true, Bool.not_true]
      refine ⟨l.length - (i + 1), by omega, i + 1, by omega, rfl, rfl, ?_, ?_, ?_⟩
      all_goals simp only [uxA, uxB, Nat.reduceBEq, r0, r1]
    · have e1 : decide ((i : Int) < (l.length : Int)) = false := decide_eq_false (by omega)
      simp only [pc_linotypekit_SameSymbols_2, sxA, sxB, Nat.reduceBEq, Nat.reduceEqDiff, reduceCtorEq, mxA, mxB, Nat.reduceAdd, reduceIte, Nat.reduceLeDiff, splice, r0, r1, r5, e1, Zdi, ret_linotypekit_SameSymbols]
      exact .mk (Nat.le_refl _) ⟨rfl, rfl⟩
theorem ImAt.slp {H0 H : Heap} {x : Im} {vb vs vm : Value} (h : ImAt H0 H x vb vs vm) : ∃ a1 a2 a3 c1 c2 c3, vb = .slice a1 x.b.length c1 ∧ vs = .slice a2 x.syms.length c2 ∧ vm = .slice a3 x.marks.length c3 := by
  obtain ⟨a1, c1, h1⟩ := h.gb.sl
  obtain ⟨a2, c2, h2⟩ := h.gs.sl
  obtain ⟨a3, c3, h3⟩ := h.gm.sl
  exact ⟨a1, a2, a3, c1, c2, c3, h1, h2, h3⟩
theorem q_SameImage {H0 H1 : Heap} (x : Im) (vb vs vm ub us um : Value) (hn : x.syms.length ≤ 1000000 ∧ x.marks.length ≤ 1000000) (H : Heap) (ha : ImAt H0 H x vb vs vm) (hb : ImAt H1 H x ub us um) : CallQ prog f_linotypekit_SameImage [.agg #[.int .i64 x.org, vb, vs, vm], .agg #[.int .i64 x.org, ub, us, um]] H fun u H' => u = .bool true ∧ Ext H H' := by
  refine in_linotypekit_SameImage fun hw => ?_
  obtain ⟨a1, a2, a3, c1, c2, c3, rfl, rfl, rfl⟩ := ha.slp
  obtain ⟨b1, b2, b3, d1, d2, d3, rfl, rfl, rfl⟩ := hb.slp
  simp only [pc_linotypekit_SameImage, sxA, sxB, Nat.reduceBEq, Nat.reduceEqDiff, reduceCtorEq, mxA, mxB, Nat.reduceAdd, reduceIte, Nat.reduceLeDiff, splice]
  generalize hS : Heap.push (Heap.push H _) _ = H2
  have hx2 : Ext H H2 := by rw [← hS]; exact ((Ext.refl H).push _).push _
  have hw2 : H2.Wf := by rw [← hS]; exact (hw.push _).push _
  obtain ⟨e1, hg1⟩ : ∃ e, H2.get H.next = some (.cells [.int .i64 x.org, .slice a1 x.b.length c1, .slice a2 x.syms.length c2, .slice a3 x.marks.length c3] e false) := by
    rw [← hS, Heap.get_push, Heap.next_push, if_neg (by omega), Heap.get_push, if_pos rfl]; exact ⟨_, rfl⟩
  obtain ⟨e2, hg2⟩ : ∃ e, H2.get (H.next + 1) = some (.cells [.int .i64 x.org, .slice b1 x.b.length d1, .slice b2 x.syms.length d2, .slice b3 x.marks.length d3] e false) := by
    rw [← hS, Heap.get_push, Heap.next_push, if_pos rfl]; exact ⟨_, rfl⟩
  clear hS
  have ha2 := ha.more hw hx2
  have hb2 := hb.more hw hx2
  simp only [sxA, sxB, Nat.reduceBEq, Nat.reduceEqDiff, reduceCtorEq, mxA, mxB, Nat.reduceAdd, reduceIte, Nat.reduceLeDiff, splice, hg1, hg2, beq_self_eq_true]
  refine (q_SameBytes _ _ x.b H2 ha2.gb hb2.gb).thenW ?_
  rintro _ H3 _ hw3 ⟨rfl, rfl⟩
  simp only [sxA, sxB, Nat.reduceBEq, Nat.reduceEqDiff, reduceCtorEq, mxA, mxB, Nat.reduceAdd, reduceIte, Nat.reduceLeDiff, splice, hg1, hg2]
  refine (q_SameSymbols _ _ x.syms hn.1 H3 ha2.gs.isl hb2.gs.isl).thenW ?_
  rintro _ H4 _ hw4 ⟨rfl, rfl⟩
  obtain ⟨q1, k1, he1, hga⟩ := ha2.gm.isl
  obtain ⟨q2, k2, he2, hgb⟩ := hb2.gm.isl
  cases he1
  cases he2
  simp only [sxA, sxB, Nat.reduceBEq, Nat.reduceEqDiff, reduceCtorEq, mxA, mxB, Nat.reduceAdd, reduceIte, Nat.reduceLeDiff, splice, hg1, hg2, Zdi, beq_self_eq_true, pc_linotypekit_SameImage_3]
  refine loop_intro (fun m A' H' => ∃ i : Nat, i ≤ x.marks.length ∧ m = x.marks.length - i ∧ H' = H4 ∧ A' 2 = .pointer (some ⟨H.next, 0, none⟩) ∧ A' 3 = .pointer (some ⟨H.next + 1, 0, none⟩) ∧ A' 5 = .int .i64 i) x.marks.length ?_ ?_
  · refine ⟨0, Nat.zero_le _, rfl, rfl, ?_, ?_, ?_⟩
    all_goals simp only [uxA, uxB, Nat.reduceBEq]
    all_goals rfl
  · rintro m A' H' ⟨i, hi, rfl, hEq, r2, r3, r5⟩
    subst hEq
    by_cases h2 : i < x.marks.length
    · have e1 : decide ((i : Int) < (x.marks.length : Int)) = true := decide_eq_true (by omega)
      have c1 : (0 : Int) ≤ (i : Int) ∧ (i : Int) < (x.marks.length : Int) := by omega
      have u1 : (i : Int).toNat = i := Int.toNat_natCast _
      have ei : IntKind.i64.wrap ((i : Int) + 1) = ((i + 1 : Nat) : Int) := by rw [w64 (by unfold I64; omega)]; rfl
      obtain ⟨b1, e1', ro1, rfl, hm1⟩ := hga (by omega)
      obtain ⟨b2, e2', ro2, rfl, hm2⟩ := hgb (by omega)
      have p1 := List.getElem?_eq_getElem h2
      generalize x.marks[i] = y at *
      have t1 := markC_take p1
      have hle : i * 3 + 3 ≤ (markC x.marks).length := by rw [markC_len]; omega
      simp only [pc_linotypekit_SameImage_2, pc_linotypekit_SameImage_1, sxA, sxB, Nat.reduceBEq, Nat.reduceEqDiff, reduceCtorEq, mxA, mxB, Nat.reduceAdd, reduceIte, Nat.reduceLeDiff, splice, syA, r2, r3, r5, hg1, hg2, e1, c1, decide_true, u1, hm1, hm2, t1, hle]
      rw [eqsK_some (eqMk y)]
      simp only [sxA, sxB, Nat.reduceBEq, Nat.reduceEqDiff, reduceCtorEq, mxA, mxB, Nat.reduceAdd, reduceIte, Nat.reduceLeDiff, splice, r5, ei, cond_true, Bool.not_true]
      refine ⟨x.marks.length - (i + 1), by omega, i + 1, by omega, rfl, rfl, ?_, ?_, ?_⟩
      all_goals simp only [uxA, uxB, Nat.reduceBEq, r2, r3]
    · have e1 : decide ((i : Int) < (x.marks.length : Int)) = false := decide_eq_false (by omega)
      simp only [pc_linotypekit_SameImage_2, sxA, sxB, Nat.reduceBEq, Nat.reduceEqDiff, reduceCtorEq, mxA, mxB, Nat.reduceAdd, reduceIte, Nat.reduceLeDiff, splice, r2, r3, r5, hg1, hg2, e1, Zdi, ret_linotypekit_SameImage]
      exact .mk hx2.next ⟨rfl, hx2⟩
def i8s (l : List Int) : List Value := l.map (Value.int .u8 ·)
theorem i8s_length (l : List Int) : (i8s l).length = l.length := by simp [i8s]
theorem gen_cap {A : Env} {H : Heap} {k : Value → Heap → Prop} {t e : TypeId} {x : Operand} {a : Option Addr} {n c : Nat} (ht : prog.underlying t = some (.slice e)) (hx : ev A x = .slice a n c) (hc : c < UNK) : pr prog (.gen (.call ⟨.builtin .cap, #[x], #[t]⟩)) false A H k = k (.int .i64 c) H := by
  have hb : Nat.blt c UNK = true := by simpa using hc
  have e1 : rop prog (.gen (.call ⟨.builtin .cap, #[x], #[t]⟩)) A H = some (.int .i64 c, H) := by
    simp only [rop, aop, a_call, ht, hx, hb, cond_true]
  refine (onS_fl _).trans ?_
  rw [e1, onS_some]
theorem q_Over_known (l : List Int) (b n : Nat) (e : TypeId) (H : Heap) (hg : H.get b = some (.cells (i8s l) e false)) (hn : n ≤ l.length) (hl : l.length < UNK) : CallQ prog f_linotypekit_OverBytes [.slice (some ⟨b, 0, none⟩) n l.length] H fun u H3 => u = .tuple #[] ∧ H3.next = H.next ∧ ∀ id, id ≠ b → H3.get id = H.get id := by
  refine in_linotypekit_OverBytes fun hw => ?_
  have hs : asliceS 1 (.slice (some ⟨b, 0, none⟩) n l.length) none (some (l.length : Int)) none = some (.slice (some ⟨b, 0, none⟩) l.length l.length) := by
    unfold asliceS
    have k1 : ¬ UNK ≤ l.length := by omega
    have k2 : (0 : Int) ≤ 0 ∧ (0 : Int) ≤ (l.length : Int) ∧ (l.length : Int) ≤ (l.length : Int) ∧ (l.length : Int) ≤ (l.length : Int) := by omega
    simp only [Option.getD_none, Option.getD_some]
    rw [if_neg k1, if_pos k2]
    simp
  simp only [pc_linotypekit_OverBytes, sxA, sxB, Nat.reduceBEq, Nat.reduceEqDiff, reduceCtorEq, mxA, mxB, Nat.reduceAdd, reduceIte, Nat.reduceLeDiff, splice]
  rw [gen_cap (e := 5) (a := some ⟨b, 0, none⟩) (n := n) (c := l.length) (by kernel_rfl) (by simp only [uxA, uxB, Nat.reduceBEq]) hl]
  simp only [sxA, sxB, Nat.reduceBEq, Nat.reduceEqDiff, reduceCtorEq, mxA, mxB, Nat.reduceAdd, reduceIte, Nat.reduceLeDiff, splice, hs]
  have hb := hw.lt hg
  have hl63 : l.length ≤ 9223372036854775807 := by unfold UNK at hl; omega
  refine loop_intro (fun m A' H' => ∃ (i : Nat) (c : List Int), i ≤ l.length ∧ m = l.length - i ∧ H'.Wf ∧ c.length = l.length ∧ H'.next = H.next ∧ (∀ id, id ≠ b → H'.get id = H.get id) ∧ H'.get b = some (.cells (i8s c) e false) ∧ A' 2 = .slice (some ⟨b, 0, none⟩) l.length l.length ∧ A' 3 = .int .i64 i) l.length ?_ ?_
  · refine ⟨0, l, Nat.zero_le _, by omega, hw, rfl, rfl, fun _ _ => rfl, hg, ?_, ?_⟩
    all_goals simp only [uxA, uxB, Nat.reduceBEq]
    all_goals rfl
  · rintro m A' H3 ⟨i, c, hi, rfl, hw3, hcl, hn3, hge, hg3, r2, r3⟩
    simp only [pc_linotypekit_OverBytes_2, pc_linotypekit_OverBytes_1, sxA, sxB, Nat.reduceBEq, Nat.reduceEqDiff, reduceCtorEq, mxA, mxB, Nat.reduceAdd, reduceIte, Nat.reduceLeDiff, splice, r2, r3, Zdi]
    refine cB_cases (fun h2 => ?_) (fun h2 => ?_)
    · have h2 : i < l.length := by have := of_decide_eq_true h2; omega
      have c1 : (0 : Int) ≤ i ∧ (i : Int) < l.length := by omega
      have c3 : (i : Int).toNat = i := by omega
      have ei : IntKind.i64.wrap ((i : Int) + 1) = ((i + 1 : Nat) : Int) := by rw [w64 (by unfold I64; omega)]; omega
      have hic : i < c.length := by omega
      have g1 : (i8s c)[i]? = some (.int .u8 (c.getD i 0)) := by simp [i8s, List.getElem?_eq_getElem hic, List.getD]
      have hlt : i + 1 ≤ (i8s c).length := by rw [i8s_length]; omega
      simp only [sxA, sxB, Nat.reduceBEq, Nat.reduceEqDiff, reduceCtorEq, mxA, mxB, Nat.reduceAdd, reduceIte, Nat.reduceLeDiff, splice, r2, r3, c1, c3, hg3, g1, hlt, ei]
      refine ⟨l.length - (i + 1), by omega, i + 1, c.set i (IntKind.u8.wrap ((BitVec.ofInt IntKind.u8.bits (c.getD i 0) ^^^ BitVec.ofInt IntKind.u8.bits 90).toNat : Nat)), by omega, rfl, hw3.set hg3 _, by rw [List.length_set, hcl], hn3, fun id hid => by rw [Heap.get_set, if_neg hid]; exact hge id hid, ?_, ?_, ?_⟩
      · rw [Heap.get_set, if_pos rfl]
        congr 2
        unfold i8s
        rw [List.map_set]
        rw [List.set_eq_take_append_cons_drop, if_pos (by rw [List.length_map]; exact hic)]
        try rfl
      all_goals simp only [uxA, uxB, Nat.reduceBEq, r2]
    · simp only [sxA, sxB, Nat.reduceBEq, Nat.reduceEqDiff, reduceCtorEq, mxA, mxB, Nat.reduceAdd, reduceIte, Nat.reduceLeDiff, splice, ret_linotypekit_OverBytes]
      exact .mk (by omega) ⟨rfl, hn3, hge⟩
theorem q_OverBytes {H0 : Heap} (v : Value) (l : List UInt8) (H : Heap) (hr : Gs 1 5 H0 H v l.length (u8v l)) : CallQ prog f_linotypekit_OverBytes [v] H fun u H' => u = .tuple #[] ∧ H'.next = H.next ∧ ∀ id, ¬ inBlk v id → H'.get id = H.get id := by
  rcases hr with ⟨rfl, h2, h3⟩ | ⟨b, rfl, h2, h3, h4⟩
  · refine in_linotypekit_OverBytes fun hw => ?_
    have hs : asliceS 1 (.slice none 0 0) none (some (0 : Int)) none = some (.slice none 0 0) := rfl
    simp only [pc_linotypekit_OverBytes, sxA, sxB, Nat.reduceBEq, Nat.reduceEqDiff, reduceCtorEq, mxA, mxB, Nat.reduceAdd, reduceIte, Nat.reduceLeDiff, splice]
    rw [gen_cap (e := 5) (a := none) (n := 0) (c := 0) (by kernel_rfl) (by simp only [uxA, uxB, Nat.reduceBEq]) (by unfold UNK; decide)]
    have z0 : ((0 : Nat) : Int) = 0 := rfl
    have e0 : decide ((0 : Int) < 0) = false := rfl
    simp only [sxA, sxB, Nat.reduceBEq, Nat.reduceEqDiff, reduceCtorEq, mxA, mxB, Nat.reduceAdd, reduceIte, Nat.reduceLeDiff, splice, z0, hs]
    refine loop_intro (fun m A' H' => H' = H ∧ A' 2 = .slice none 0 0 ∧ A' 3 = .int .i64 0) 0 ?_ ?_
    · refine ⟨rfl, ?_, ?_⟩
      all_goals simp only [uxA, uxB, Nat.reduceBEq]
    · rintro m A' H' ⟨rfl, r2, r3⟩
      simp only [pc_linotypekit_OverBytes_2, sxA, sxB, Nat.reduceBEq, Nat.reduceEqDiff, reduceCtorEq, mxA, mxB, Nat.reduceAdd, reduceIte, Nat.reduceLeDiff, splice, r2, r3, z0, e0, Zdi, ret_linotypekit_OverBytes]
      exact .mk (Nat.le_refl _) ⟨rfl, rfl, fun _ _ => rfl⟩
  · have hb : ∀ v ∈ u8v l, ∃ z : Int, v = .int .u8 z ∧ 0 ≤ z ∧ z < 256 := fun v hv => by
      obtain ⟨z, hz, rfl⟩ := List.mem_map.1 hv
      have := z.toNat_lt
      exact ⟨z.toNat, rfl, by omega, by omega⟩
    refine (callQ_unk (v := .tuple #[]) (n := l.length) (by kernel_rfl) (by kernel_rfl) h3 hb fun l' h1 h4 h5 => ?_).mono ?_
    · refine (q_Over_known l' b l.length 5 _ (by rw [Heap.get_set, if_pos rfl]; rfl) h4 h5).mono ?_
      rintro u H3 ⟨h6, h7, h8⟩
      exact ⟨h6, h7, fun id hid => by rw [h8 id hid, Heap.get_set, if_neg hid]⟩
    · rintro u H' ⟨rfl, rfl⟩
      exact ⟨rfl, Heap.next_kill .., fun id hid => by rw [Heap.get_kill, if_neg fun h => hid ⟨_, _, _, by rw [h]⟩]⟩
theorem splice_len3 {c n : List Value} {i : Nat} (hn : n.length = 3) (h : i * 3 + 3 ≤ c.length) : (splice c (i * 3) n).length = c.length := splice_length (by omega)
theorem q_OverSymbols {H0 : Heap} (v : Value) (l : List Sy) (hll : l.length ≤ 1000000) (H : Heap) (hr : Gs 3 T_api_Symbol H0 H v l.length (symC l)) : CallQ prog f_linotypekit_OverSymbols [v] H fun u H' => u = .tuple #[] ∧ H'.next = H.next ∧ ∀ id, ¬ inBlk v id → H'.get id = H.get id := by
  refine in_linotypekit_OverSymbols fun hw => ?_
  have hn : ∃ a cap, v = .slice a l.length cap ∧ (0 < l.length → ∃ b, a = some ⟨b, 0, none⟩ ∧ H.get b = some (.cells (symC l) T_api_Symbol false)) := by
    rcases hr with ⟨rfl, h2, h3⟩ | ⟨b, rfl, h2, h3, h4⟩
    · exact ⟨none, 0, by rw [h2], fun h => by omega⟩
    · exact ⟨_, _, rfl, fun _ => ⟨b, rfl, h3⟩⟩
  obtain ⟨a, cap, rfl, hb⟩ := hn
  simp only [pc_linotypekit_OverSymbols, sxA, sxB, Nat.reduceBEq, Nat.reduceEqDiff, reduceCtorEq, mxA, mxB, Nat.reduceAdd, reduceIte, Nat.reduceLeDiff, splice]
  refine loop_intro (fun m A' H' => ∃ i : Nat, i ≤ l.length ∧ m = l.length - i ∧ H'.Wf ∧ H'.next = H.next ∧ (∀ id, ¬ inBlk (.slice a l.length cap) id → H'.get id = H.get id) ∧ (0 < l.length → ∃ b c, a = some ⟨b, 0, none⟩ ∧ H'.get b = some (.cells c T_api_Symbol false) ∧ c.length = l.length * 3) ∧ A' 0 = .slice a l.length cap ∧ A' 2 = .int .i64 i) l.length ?_ ?_
  · refine ⟨0, Nat.zero_le _, rfl, hw, rfl, fun _ _ => rfl, fun h => ?_, ?_, ?_⟩
    · obtain ⟨b, h1, h2⟩ := hb h
      exact ⟨b, _, h1, h2, symC_len l⟩
    all_goals simp only [uxA, uxB, Nat.reduceBEq]
    all_goals rfl
  · rintro m A' H' ⟨i, hi, rfl, hw', hn', hk', hb', r0, r2⟩
    by_cases h2 : i < l.length
    · have e1 : decide ((i : Int) < (l.length : Int)) = true := decide_eq_true (by omega)
      have c1 : (0 : Int) ≤ (i : Int) ∧ (i : Int) < (l.length : Int) := by omega
      have u1 : (i : Int).toNat = i := Int.toNat_natCast _
      have ei : IntKind.i64.wrap ((i : Int) + 1) = ((i + 1 : Nat) : Int) := by rw [w64 (by unfold I64; omega)]; rfl
      obtain ⟨b, c, rfl, hg, hcl⟩ := hb' (by omega)
      have hle : i * 3 + 3 ≤ c.length := by omega
      simp only [pc_linotypekit_OverSymbols_1, sxA, sxB, Nat.reduceBEq, Nat.reduceEqDiff, reduceCtorEq, mxA, mxB, Nat.reduceAdd, reduceIte, Nat.reduceLeDiff, splice, syA, r0, r2, e1, c1, decide_true, u1, hg, hle, ei]
      refine ⟨l.length - (i + 1), by omega, i + 1, by omega, rfl, hw'.set hg _, by rw [Heap.next_set]; exact hn', fun id hid => ?_, fun _ => ⟨b, _, rfl, by rw [Heap.get_set, if_pos rfl], by simp only [List.length_append, List.length_take, List.length_cons, List.length_drop]; omega⟩, ?_, ?_⟩
      · rw [Heap.get_set, if_neg fun h => hid ⟨_, _, _, by rw [h]⟩]; exact hk' id hid
      all_goals simp only [uxA, uxB, Nat.reduceBEq, r0]
    · have e1 : decide ((i : Int) < (l.length : Int)) = false := decide_eq_false (by omega)
      simp only [pc_linotypekit_OverSymbols_1, sxA, sxB, Nat.reduceBEq, Nat.reduceEqDiff, reduceCtorEq, mxA, mxB, Nat.reduceAdd, reduceIte, Nat.reduceLeDiff, splice, r0, r2, e1, Zdi, ret_linotypekit_OverSymbols]
      exact .mk (by omega) ⟨rfl, hn', hk'⟩
theorem q_OverImage {H0 : Heap} (x : Im) (vb vs vm : Value) (hsz : x.syms.length ≤ 1000000 ∧ x.marks.length ≤ 1000000) (H : Heap) (hI : ImAt H0 H x vb vs vm) (hx0 : Ext H0 H) : CallQ prog f_linotypekit_OverImage [.agg #[.int .i64 x.org, vb, vs, vm]] H fun u H' => u = .tuple #[] ∧ Ext H0 H' := by
  refine in_linotypekit_OverImage fun hw => ?_
  have hlow := hI.low' hw
  obtain ⟨a1, a2, a3, c1, c2, c3, rfl, rfl, rfl⟩ := hI.slp
  simp only [pc_linotypekit_OverImage, sxA, sxB, Nat.reduceBEq, Nat.reduceEqDiff, reduceCtorEq, mxA, mxB, Nat.reduceAdd, reduceIte, Nat.reduceLeDiff, splice]
  generalize hS : Heap.push H _ = H1
  have hx1 : Ext H H1 := by rw [← hS]; exact (Ext.refl H).push _
  have hw1 : H1.Wf := by rw [← hS]; exact hw.push _
  obtain ⟨e1, hg1⟩ : ∃ e, H1.get H.next = some (.cells [.int .i64 x.org, .slice a1 x.b.length c1, .slice a2 x.syms.length c2, .slice a3 x.marks.length c3] e false) := by
    rw [← hS, Heap.get_push, if_pos rfl]; exact ⟨_, rfl⟩
  clear hS
  have hI1 := hI.more hw hx1
  have hn01 := hx0.next
  have hn1 := hx1.next
  have old : ∀ id, id < H0.next → ¬ inBlk (.slice a1 x.b.length c1) id ∧ ¬ inBlk (.slice a2 x.syms.length c2) id ∧ ¬ inBlk (.slice a3 x.marks.length c3) id := fun id hid => ⟨fun h => by have := (hI.gb.low hw h).1; omega, fun h => by have := (hI.gs.low hw h).1; omega, fun h => by have := (hI.gm.low hw h).1; omega⟩
  have nX : ¬ inBlk (.slice a1 x.b.length c1) H.next ∧ ¬ inBlk (.slice a2 x.syms.length c2) H.next ∧ ¬ inBlk (.slice a3 x.marks.length c3) H.next := ⟨fun h => by have := hlow.1 _ h; omega, fun h => by have := hlow.2.1 _ h; omega, fun h => by have := hlow.2.2 _ h; omega⟩
  refine (q_OverBytes _ x.b H1 hI1.gb).thenW ?_
  rintro _ H2 _ hw2 ⟨rfl, hn2, hk2⟩
  have hg2 : H2.get H.next = some (.cells [.int .i64 x.org, .slice a1 x.b.length c1, .slice a2 x.syms.length c2, .slice a3 x.marks.length c3] e1 false) := by rw [hk2 _ nX.1]; exact hg1
  have hgs2 := hI1.gs.ext (H' := H2) fun id hid => hk2 id fun h => hI1.bs id h hid
  have hgm2 := hI1.gm.ext (H' := H2) fun id hid => hk2 id fun h => hI1.bm id h hid
  simp only [sxA, sxB, Nat.reduceBEq, Nat.reduceEqDiff, reduceCtorEq, mxA, mxB, Nat.reduceAdd, reduceIte, Nat.reduceLeDiff, splice, hg2]
  refine (q_OverSymbols _ x.syms hsz.1 H2 hgs2).thenW ?_
  rintro _ H3 _ hw3 ⟨rfl, hn3, hk3⟩
  have hg3 : H3.get H.next = some (.cells [.int .i64 x.org, .slice a1 x.b.length c1, .slice a2 x.syms.length c2, .slice a3 x.marks.length c3] e1 false) := by rw [hk3 _ nX.2.1]; exact hg2
  have hgm3 := hgm2.ext (H' := H3) fun id hid => hk3 id fun h => hI1.sm id h hid
  have hx3 : Ext H0 H3 := ⟨by omega, fun id hid => by rw [hk3 id (old id hid).2.1, hk2 id (old id hid).1, hx1.get id (by omega)]; exact hx0.get id hid⟩
  have hn : 0 < x.marks.length → ∃ b, a3 = some ⟨b, 0, none⟩ ∧ H3.get b = some (.cells (markC x.marks) T_api_Mark false) ∧ H0.next ≤ b ∧ b ≠ H.next := fun h0 => by
    rcases hgm3 with ⟨h1, h2, h3⟩ | ⟨b, h1, h2, h3, h4⟩
    · omega
    · cases h1
      exact ⟨b, rfl, h3, h2, fun h => nX.2.2 ⟨_, _, _, by rw [h]⟩⟩
  simp only [sxA, sxB, Nat.reduceBEq, Nat.reduceEqDiff, reduceCtorEq, mxA, mxB, Nat.reduceAdd, reduceIte, Nat.reduceLeDiff, splice]
  refine loop_intro (fun m A' H' => ∃ i : Nat, i ≤ x.marks.length ∧ m = x.marks.length - i ∧ H'.Wf ∧ Ext H0 H' ∧ H'.next = H3.next ∧ H'.get H.next = some (.cells [.int .i64 x.org, .slice a1 x.b.length c1, .slice a2 x.syms.length c2, .slice a3 x.marks.length c3] e1 false) ∧ (0 < x.marks.length → ∃ b c, a3 = some ⟨b, 0, none⟩ ∧ H'.get b = some (.cells c T_api_Mark false) ∧ c.length = x.marks.length * 3 ∧ H0.next ≤ b ∧ b ≠ H.next) ∧ A' 1 = .pointer (some ⟨H.next, 0, none⟩) ∧ A' 2 = .int .i64 i) x.marks.length ?_ ?_
  · refine ⟨0, Nat.zero_le _, rfl, hw3, hx3, rfl, hg3, fun h => ?_, ?_, ?_⟩
    · obtain ⟨b, h1, h2, h3, h4⟩ := hn h
      exact ⟨b, _, h1, h2, markC_len _, h3, h4⟩
    all_goals simp only [uxA, uxB, Nat.reduceBEq]
    all_goals rfl
  · rintro m A' H' ⟨i, hi, rfl, hw', hx', hn', hgX, hb', r1, r2⟩
    by_cases h2 : i < x.marks.length
    · have e1 : decide ((i : Int) < (x.marks.length : Int)) = true := decide_eq_true (by omega)
      have c1 : (0 : Int) ≤ (i : Int) ∧ (i : Int) < (x.marks.length : Int) := by omega
      have u1 : (i : Int).toNat = i := Int.toNat_natCast _
      have ei : IntKind.i64.wrap ((i : Int) + 1) = ((i + 1 : Nat) : Int) := by rw [w64 (by unfold I64; omega)]; rfl
      obtain ⟨b, c, rfl, hg, hcl, hbl, hbX⟩ := hb' (by omega)
      have hle : i * 3 + 3 ≤ c.length := by omega
      simp only [pc_linotypekit_OverImage_2, pc_linotypekit_OverImage_1, sxA, sxB, Nat.reduceBEq, Nat.reduceEqDiff, reduceCtorEq, mxA, mxB, Nat.reduceAdd, reduceIte, Nat.reduceLeDiff, splice, syA, r1, r2, hgX, e1, c1, decide_true, u1, hg, hle, ei]
      refine ⟨x.marks.length - (i + 1), by omega, i + 1, by omega, rfl, hw'.set hg _, hx'.set hbl _, by rw [Heap.next_set]; exact hn', by rw [Heap.get_set, if_neg (fun h => hbX h.symm)]; exact hgX, fun _ => ⟨b, _, rfl, by rw [Heap.get_set, if_pos rfl], by simp only [List.length_append, List.length_take, List.length_cons, List.length_drop]; omega, hbl, hbX⟩, ?_, ?_⟩
      all_goals simp only [uxA, uxB, Nat.reduceBEq, r1]
    · have e1 : decide ((i : Int) < (x.marks.length : Int)) = false := decide_eq_false (by omega)
      simp only [pc_linotypekit_OverImage_2, sxA, sxB, Nat.reduceBEq, Nat.reduceEqDiff, reduceCtorEq, mxA, mxB, Nat.reduceAdd, reduceIte, Nat.reduceLeDiff, splice, r1, r2, hgX, e1, Zdi, ret_linotypekit_OverImage]
      exact .mk (by omega) ⟨rfl, hx'⟩
theorem q_longLines (l : List (List UInt8)) (lv : Value) (H : Heap) (hs : IsSl H lv l.length (strs l)) : CallQ prog f_linotypelaw31_longLines [lv] H fun u H' => (∃ t : Bool, u = .bool t ∧ (t = false → l.length ≤ 80 ∧ ∀ s ∈ l, s.length ≤ 2100)) ∧ H' = H := by
  refine in_linotypelaw31_longLines fun hw => ?_
  obtain ⟨a, cap, rfl, hla⟩ := hs
  simp only [pc_linotypelaw31_longLines, sxA, sxB, Nat.reduceBEq, Nat.reduceEqDiff, reduceCtorEq, mxA, mxB, Nat.reduceAdd, reduceIte, Nat.reduceLeDiff, splice]
  refine loop_intro (fun m A' H' => ∃ i : Nat, i ≤ l.length ∧ i ≤ 81 ∧ m = 81 - i ∧ H' = H ∧ (∀ s ∈ l.take i, s.length ≤ 2100) ∧ A' 0 = .slice a l.length cap ∧ A' 3 = .int .i64 i) 81 ?_ ?_
  · refine ⟨0, Nat.zero_le _, by omega, rfl, rfl, fun s hs => by simp at hs, ?_, ?_⟩
    all_goals simp only [uxA, uxB, Nat.reduceBEq]
    all_goals rfl
  · rintro m A' H' ⟨i, hi, hi81, rfl, hEq, hall, r0, r3⟩
    subst hEq
    have last : ∀ A : Env, A 2 = .bool (decide ((80 : Int) < (l.length : Int))) → (l.length ≤ 80 → i = l.length) → Rt prog F_linotypelaw31_longLines H' (fun u H'_1 => (∃ t : Bool, u = .bool t ∧ (t = false → l.length ≤ 80 ∧ ∀ s ∈ l, s.length ≤ 2100)) ∧ H'_1 = H') A H' := fun A q2 hend => by
      rw [ret_linotypelaw31_longLines, q2]
      refine .mk (Nat.le_refl _) ⟨⟨_, rfl, fun h => ?_⟩, rfl⟩
      have h := of_decide_eq_false h
      have h80 : l.length ≤ 80 := by omega
      refine ⟨h80, ?_⟩
      have := hend h80
      rw [this, List.take_length] at hall
      exact hall
    by_cases h2 : i < l.length
    · have e1 : decide ((i : Int) < (l.length : Int)) = true := decide_eq_true (by omega)
      by_cases h3 : i < 81
      · have e3 : decide ((i : Int) < 81) = true := decide_eq_true (by omega)
        have c1 : (0 : Int) ≤ (i : Int) ∧ (i : Int) < (l.length : Int) := by omega
        have u1 : (i : Int).toNat = i := Int.toNat_natCast _
        have ei : IntKind.i64.wrap ((i : Int) + 1) = ((i + 1 : Nat) : Int) := by rw [w64 (by unfold I64; omega)]; rfl
        obtain ⟨b, e, ro, rfl, hgl⟩ := hla (by omega)
        have p1 := List.getElem?_eq_getElem h2
        have htk : l.take (i + 1) = l.take i ++ [l[i]] := by rw [List.take_add_one, p1]; rfl
        generalize l[i] = s at *
        have p2 := strs_get p1
        simp only [pc_linotypelaw31_longLines_2, pc_linotypelaw31_longLines_1, sxA, sxB, Nat.reduceBEq, Nat.reduceEqDiff, reduceCtorEq, mxA, mxB, Nat.reduceAdd, reduceIte, Nat.reduceLeDiff, splice, r0, r3, e1, e3, c1, decide_true, u1, hgl, p2, Zdk, bl_mkS, Zdi]
        by_cases h4 : (2100 : Int) < (s.length : Int)
        · simp only [sxA, sxB, Nat.reduceBEq, Nat.reduceEqDiff, reduceCtorEq, mxA, mxB, Nat.reduceAdd, reduceIte, Nat.reduceLeDiff, splice, decide_eq_true h4, ret_linotypelaw31_longLines]
          exact .mk (Nat.le_refl _) ⟨⟨true, rfl, fun h => nomatch h⟩, rfl⟩
        · simp only [sxA, sxB, Nat.reduceBEq, Nat.reduceEqDiff, reduceCtorEq, mxA, mxB, Nat.reduceAdd, reduceIte, Nat.reduceLeDiff, splice, decide_eq_false h4, r3, ei]
          refine ⟨81 - (i + 1), by omega, i + 1, by omega, by omega, rfl, rfl, ?_, ?_, ?_⟩
          · rw [htk]
            intro z hz
            rcases List.mem_append.1 hz with hz | hz
            · exact hall z hz
            · simp at hz; subst hz; omega
          all_goals simp only [uxA, uxB, Nat.reduceBEq, r0]
      · have e3 : decide ((i : Int) < 81) = false := decide_eq_false (by omega)
        simp only [pc_linotypelaw31_longLines_2, sxA, sxB, Nat.reduceBEq, Nat.reduceEqDiff, reduceCtorEq, mxA, mxB, Nat.reduceAdd, reduceIte, Nat.reduceLeDiff, splice, r0, r3, e1, e3, Zdi]
        refine last _ ?_ (by omega)
        simp only [uxA, uxB, Nat.reduceBEq]
    · have e1 : decide ((i : Int) < (l.length : Int)) = false := decide_eq_false (by omega)
      simp only [pc_linotypelaw31_longLines_2, sxA, sxB, Nat.reduceBEq, Nat.reduceEqDiff, reduceCtorEq, mxA, mxB, Nat.reduceAdd, reduceIte, Nat.reduceLeDiff, splice, r0, r3, e1, Zdi]
      refine last _ ?_ (by omega)
      simp only [uxA, uxB, Nat.reduceBEq]
end Go.Proofs.YthoanamkoigjeaaGreatDoor.code
/- ListingReads: the law's walk. -/
set_option linter.unusedVariables false
set_option linter.unusedSimpArgs false
set_option maxRecDepth 100000
set_option maxHeartbeats 4000000
namespace Go.Proofs.YthoanamkoigjeaaGreatDoor.code
open Go.Ab

theorem refF_ok {l : List (List UInt8)} {x : Im} (h : refF l = .ok x) : x.syms.length ≤ 20000 ∧ x.marks.length ≤ 20000 := by
  have key : ∀ (l : List (List UInt8)) (y : Im) (i : Nat), y.syms.length ≤ 20000 ∧ y.marks.length ≤ 20000 → readR y i l = .ok x → x.syms.length ≤ 20000 ∧ x.marks.length ≤ 20000 := by
    intro l
    induction l with
    | nil => intro y i hy h; rw [readR] at h; cases h; exact hy
    | cons s l ih =>
      intro y i hy h
      rw [readR] at h
      split at h
      · cases h
      · split at h
        · rename_i z _ hz
          exact ih _ _ ⟨hz.1.2.1, hz.1.2.2⟩ h
        · cases h
  unfold refF at h
  split at h
  · cases h
  · exact key _ _ _ (by decide) h
theorem im0_at (H0 H : Heap) : ImAt H0 H im0 (.slice none 0 0) (.slice none 0 0) (.slice none 0 0) := by
  have nb : ∀ id, ¬ inBlk (.slice none 0 0) id := fun id h => by obtain ⟨o, n, c, h⟩ := h; cases h
  exact ⟨.inl ⟨rfl, rfl, rfl⟩, .inl ⟨rfl, rfl, rfl⟩, .inl ⟨rfl, rfl, rfl⟩, fun id h => absurd h (nb _), fun id h => absurd h (nb _), fun id h => absurd h (nb _)⟩
def ImE (r : Except Nat Im) (x : Im) (e i : Int) : Prop := match r with | .ok y => x = y ∧ e = 0 ∧ i = 0 | .error n => x = im0 ∧ e = 4 ∧ i = (n : Int)
theorem ImP.one {H0 : Heap} {r : Except Nat Im} {u : Value} {H' : Heap} (h : ImP H0 r u H') : ∃ (x : Im) (vb vs vm : Value) (e i : Int), u = .tuple #[.agg #[.int .i64 x.org, vb, vs, vm], .agg #[.int .i64 e, .int .i64 i]] ∧ ImAt H0 H' x vb vs vm ∧ Ext H0 H' ∧ ImE r x e i := by
  cases r with
  | error n => exact ⟨im0, _, _, _, 4, n, h.1, im0_at _ _, h.2, rfl, rfl, rfl⟩
  | ok x =>
    obtain ⟨vb, vs, vm, h1, h2, h3⟩ := h
    exact ⟨x, vb, vs, vm, 0, 0, h1, h2, h3, rfl, rfl, rfl⟩
theorem eqWr (a b : Int) : eqCells [.i, .i] #[.int .i64 a, .int .i64 b] #[.int .i64 a, .int .i64 b] 0 = some true := by
  refine (eqCells_step (a := .int .i64 a) (b := .int .i64 a) (p := true) (q := true) rfl rfl (by simp [eqSk]) ?_)
  refine (eqCells_step (a := .int .i64 b) (b := .int .i64 b) (p := true) (q := true) rfl rfl (by simp [eqSk]) ?_)
  rfl
theorem q_ListingReads {T : Heap → Prop} (hT : Tz T) (hAw : ∀ H, T H → CallQ prog f_linotypelaw31_awake [] H fun u _ => u = .bool true) (l : List (List UInt8)) (lv : Value) (H : Heap) (hTH : T H) (hs : IsSl H lv l.length (strs l)) : CallQ prog f_linotypelaw31_ListingReads [lv] H fun u _ => u = .bool true := by
  refine in_linotypelaw31_ListingReads fun hw => ?_
  simp only [pc_linotypelaw31_ListingReads, sxA, sxB, Nat.reduceBEq, Nat.reduceEqDiff, reduceCtorEq, mxA, mxB, Nat.reduceAdd, reduceIte, Nat.reduceLeDiff, splice]
  refine (q_longLines l lv H hs).thenW ?_
  rintro _ H1 _ hw1 ⟨⟨t, rfl, ht⟩, rfl⟩
  cases t with
  | true =>
    simp only [sxA, sxB, Nat.reduceBEq, Nat.reduceEqDiff, reduceCtorEq, mxA, mxB, Nat.reduceAdd, reduceIte, Nat.reduceLeDiff, splice, ret_linotypelaw31_ListingReads]
    exact .mk (Nat.le_refl _) rfl
  | false =>
    obtain ⟨hl80, hll⟩ := ht rfl
    simp only [sxA, sxB, Nat.reduceBEq, Nat.reduceEqDiff, reduceCtorEq, mxA, mxB, Nat.reduceAdd, reduceIte, Nat.reduceLeDiff, splice, pc_linotypelaw31_ListingReads_1]
    refine (q_Read hT l lv (fun s hs => by have := hll s hs; omega) (by omega) H1 hTH hs).thenW ?_
    rintro _ H2 _ hw2 hP
    obtain ⟨x, vb, vs, vm, e, i, rfl, hI, hx2, hr⟩ := hP.one
    obtain ⟨a1, a2, a3, c1, c2, c3, rfl, rfl, rfl⟩ := hI.slp
    simp only [sxA, sxB, Nat.reduceBEq, Nat.reduceEqDiff, reduceCtorEq, mxA, mxB, Nat.reduceAdd, reduceIte, Nat.reduceLeDiff, splice, syA]
    have hsx : x.syms.length ≤ 20000 ∧ x.marks.length ≤ 20000 := by
      cases hrf : readF l with
      | error n => rw [hrf] at hr; rw [hr.1]; decide
      | ok y =>
        rw [hrf] at hr
        rw [hr.1]
        rw [readF_refF] at hrf
        exact refF_ok hrf
    generalize hS : Heap.set (Heap.set (Heap.push (Heap.push H2 _) _) _ _) _ _ = H3
    have hx23 : Ext H2 H3 := by rw [← hS]; exact ((((Ext.refl H2).push _).push _).set (Nat.le_refl _) _).set (by omega) _
    have hn3 : H3.next = H2.next + 2 := by rw [← hS, Heap.next_set, Heap.next_set, Heap.next_push, Heap.next_push]
    have hw3 : H3.Wf := by
      rw [← hS]
      exact (((hw2.push _).push _).set (by rw [Heap.get_push, Heap.next_push, if_neg (by omega), Heap.get_push, if_pos rfl]) _).set (by rw [Heap.get_set, if_neg (by omega), Heap.get_push, Heap.next_push, if_pos rfl]) _
    have hgX3 : H3.get H2.next = some (.cells [.int .i64 x.org, .slice a1 x.b.length c1, .slice a2 x.syms.length c2, .slice a3 x.marks.length c3] T_api_Image false) := by
      rw [← hS, Heap.get_set, if_neg (by omega), Heap.get_set, if_pos rfl]
    have hgW3 : H3.get (H2.next + 1) = some (.cells [.int .i64 e, .int .i64 i] T_api_Wrong false) := by rw [← hS, Heap.get_set, if_pos rfl]
    clear hS
    have hx13 := hx2.trans hx23
    have hI3 := hI.more hw2 hx23
    refine (q_ref31_Read l lv (fun s hs => by have := hll s hs; omega) (by omega) H3 (hs.ext hw hx13)).thenW ?_
    rintro _ H4 _ hw4 hP4
    obtain ⟨x', vb', vs', vm', e', i', rfl, hI4, hx4, hr4⟩ := hP4.one
    have hsame : x' = x ∧ e' = e ∧ i' = i := by
      rw [← readF_refF] at hr4
      cases hrf : readF l with
      | error n => rw [hrf] at hr hr4; exact ⟨hr4.1.trans hr.1.symm, hr4.2.1.trans hr.2.1.symm, hr4.2.2.trans hr.2.2.symm⟩
      | ok y => rw [hrf] at hr hr4; exact ⟨hr4.1.trans hr.1.symm, hr4.2.1.trans hr.2.1.symm, hr4.2.2.trans hr.2.2.symm⟩
    obtain ⟨rfl, rfl, rfl⟩ := hsame
    obtain ⟨b1, b2, b3, d1, d2, d3, rfl, rfl, rfl⟩ := hI4.slp
    have hI34 := hI3.more hw3 hx4
    have hn34 := hx4.next
    have hgX4 : H4.get H2.next = some (.cells [.int .i64 x'.org, .slice a1 x'.b.length c1, .slice a2 x'.syms.length c2, .slice a3 x'.marks.length c3] T_api_Image false) := by rw [hx4.get _ (by omega)]; exact hgX3
    have hgW4 : H4.get (H2.next + 1) = some (.cells [.int .i64 e', .int .i64 i'] T_api_Wrong false) := by rw [hx4.get _ (by omega)]; exact hgW3
    have nX : ¬ H2.next = H4.next + 1 := by omega
    have nX' : ¬ H2.next = H4.next := by omega
    have nW : ¬ H2.next + 1 = H4.next + 1 := by omega
    have nW' : ¬ H2.next + 1 = H4.next := by omega
    simp only [sxA, sxB, Nat.reduceBEq, Nat.reduceEqDiff, reduceCtorEq, mxA, mxB, Nat.reduceAdd, reduceIte, Nat.reduceLeDiff, splice, syA, nX, nX', nW, nW', if_false, hgX4]
    generalize hS : Heap.set (Heap.set (Heap.push (Heap.push H4 _) _) _ _) _ _ = H5
    have hx45 : Ext H4 H5 := by rw [← hS]; exact ((((Ext.refl H4).push _).push _).set (Nat.le_refl _) _).set (by omega) _
    have hn5 : H5.next = H4.next + 2 := by rw [← hS, Heap.next_set, Heap.next_set, Heap.next_push, Heap.next_push]
    have hw5 : H5.Wf := by
      rw [← hS]
      exact (((hw4.push _).push _).set (by rw [Heap.get_push, Heap.next_push, if_neg (by omega), Heap.get_push, if_pos rfl]) _).set (by rw [Heap.get_set, if_neg (by omega), Heap.get_push, Heap.next_push, if_pos rfl]) _
    have hgX5 : H5.get H2.next = some (.cells [.int .i64 x'.org, .slice a1 x'.b.length c1, .slice a2 x'.syms.length c2, .slice a3 x'.marks.length c3] T_api_Image false) := by rw [hx45.get _ (by omega)]; exact hgX4
    have hgW5 : H5.get (H2.next + 1) = some (.cells [.int .i64 e', .int .i64 i'] T_api_Wrong false) := by rw [hx45.get _ (by omega)]; exact hgW4
    have hgY5 : H5.get H4.next = some (.cells [.int .i64 x'.org, .slice b1 x'.b.length d1, .slice b2 x'.syms.length d2, .slice b3 x'.marks.length d3] T_api_Image false) := by
      rw [← hS, Heap.get_set, if_neg (by omega), Heap.get_set, if_pos rfl]
    have hgV5 : H5.get (H4.next + 1) = some (.cells [.int .i64 e', .int .i64 i'] T_api_Wrong false) := by rw [← hS, Heap.get_set, if_pos rfl]
    have hI35 := hI34.more hw4 hx45
    have hI45 := hI4.more hw4 hx45
    refine (q_SameImage x' _ _ _ _ _ _ (by omega) H5 hI35 hI45).thenW ?_
    rintro _ H6 _ hw6 ⟨rfl, hx6⟩
    have hn56 := hx6.next
    have hgX6 : H6.get H2.next = some (.cells [.int .i64 x'.org, .slice a1 x'.b.length c1, .slice a2 x'.syms.length c2, .slice a3 x'.marks.length c3] T_api_Image false) := by rw [hx6.get _ (by omega)]; exact hgX5
    have hgW6 : H6.get (H2.next + 1) = some (.cells [.int .i64 e', .int .i64 i'] T_api_Wrong false) := by rw [hx6.get _ (by omega)]; exact hgW5
    have hgV6 : H6.get (H4.next + 1) = some (.cells [.int .i64 e', .int .i64 i'] T_api_Wrong false) := by rw [hx6.get _ (by omega)]; exact hgV5
    simp only [sxA, sxB, Nat.reduceBEq, Nat.reduceEqDiff, reduceCtorEq, mxA, mxB, Nat.reduceAdd, reduceIte, Nat.reduceLeDiff, splice, syA, hgW6, hgV6]
    rw [eqsK_some (eqWr e' i')]
    simp only [sxA, sxB, Nat.reduceBEq, Nat.reduceEqDiff, reduceCtorEq, mxA, mxB, Nat.reduceAdd, reduceIte, Nat.reduceLeDiff, splice, syA, hgX6, cond_false]
    refine (q_OverImage x' _ _ _ (by omega) H6 (hI35.more hw5 hx6) (((hx13.trans hx4).trans hx45).trans hx6)).thenW ?_
    rintro _ H7 _ hw7 ⟨rfl, hx7⟩
    simp only [sxA, sxB, Nat.reduceBEq, Nat.reduceEqDiff, reduceCtorEq, mxA, mxB, Nat.reduceAdd, reduceIte, Nat.reduceLeDiff, splice, syA]
    refine (hAw H7 (hT.q.ext _ _ hw1 hTH hx7)).thenW ?_
    rintro _ H8 hn8 hw8 rfl
    simp only [sxA, sxB, Nat.reduceBEq, Nat.reduceEqDiff, reduceCtorEq, mxA, mxB, Nat.reduceAdd, reduceIte, Nat.reduceLeDiff, splice, syA, ret_linotypelaw31_ListingReads]
    exact .mk (by have := hx7.next; omega) rfl
end Go.Proofs.YthoanamkoigjeaaGreatDoor.code
