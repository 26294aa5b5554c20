/- Closed runs of functions of numbers and texts, as contracts over any heap. -/
import Derived.Test.YthoanamkoigjeaaGreatDoorC0Code
import Derived.Test.YthoanamkoigjeaaGreatDoorAbH
import Derived.Test.YthoanamkoigjeaaGreatDoorAbF
import Derived.Laws.BitsLemmas
import Derived.Laws.Bits64
import Derived.Test.YthoanamkoigjeaaGreatDoorC7Asm
set_option linter.unusedVariables false
set_option maxRecDepth 100000
namespace Go.Proofs.YthoanamkoigjeaaGreatDoor.code
open Go.Ab

noncomputable def extT : FuncId → Option Xk := fun f => bif Nat.beq f f_internal_bytealg_IndexByteString then some .indexByte else bif Nat.beq f f_internal_bytealg_CountString then some .count else bif Nat.beq f f_internal_abi_NoEscape then some .noEscape else bif Nat.beq f f_math_bits_Add64 then some .add64 else none
theorem ext_indexByte : IsExt prog f_internal_bytealg_IndexByteString .indexByte := ⟨_, rfl, by kernel_rfl, by kernel_rfl, by kernel_rfl, by kernel_rfl⟩
theorem ext_count : IsExt prog f_internal_bytealg_CountString .count := ⟨_, rfl, by kernel_rfl, by kernel_rfl, by kernel_rfl, by kernel_rfl⟩
theorem ext_noEscape : IsExt prog f_internal_abi_NoEscape .noEscape := ⟨_, rfl, by kernel_rfl, by kernel_rfl, by kernel_rfl, by kernel_rfl⟩
theorem ext_add64 : IsExt prog f_math_bits_Add64 .add64 := ⟨_, rfl, by kernel_rfl, by kernel_rfl, by kernel_rfl, by kernel_rfl⟩
theorem extT_ok : ∀ f k, extT f = some k → IsExt prog f k := by
  intro f k h
  unfold extT at h
  cases b1 : Nat.beq f f_internal_bytealg_IndexByteString with
  | true => rw [b1] at h; cases h; rw [Nat.eq_of_beq_eq_true b1]; exact ext_indexByte
  | false =>
    rw [b1, cond_false] at h
    cases b2 : Nat.beq f f_internal_bytealg_CountString with
    | true => rw [b2] at h; cases h; rw [Nat.eq_of_beq_eq_true b2]; exact ext_count
    | false =>
      rw [b2, cond_false] at h
      cases b3 : Nat.beq f f_internal_abi_NoEscape with
      | true => rw [b3] at h; cases h; rw [Nat.eq_of_beq_eq_true b3]; exact ext_noEscape
      | false =>
        rw [b3, cond_false] at h
        cases b4 : Nat.beq f f_math_bits_Add64 with
        | true => rw [b4] at h; cases h; rw [Nat.eq_of_beq_eq_true b4]; exact ext_add64
        | false => rw [b4] at h; cases h
noncomputable def isV (u : Value) : Option (Value × Heap) → Bool
  | some (v, _) => beqV 6 u v
  | none => false
noncomputable def isRun (f : FuncId) (args : List Value) (u : Value) : Bool := isV u ((run prog (xknown extT) 200 5 12).fn f args (H0 prog))
theorem callQ_run {f : FuncId} {args : List Value} {u : Value} (he : entered prog f = true) (ha : args.all Ab.plain = true) (hu : Ab.plain u = true) (h : isRun f args u = true) (H : Heap) : CallQ prog f args H fun v H' => v = u ∧ H' = H := by
  unfold isRun isV at h
  split at h
  · rename_i v H1 hr
    have hd := ((run_sound (xknown_ok extT_ok) 12).fn f args _ _ H1 hr).does he
    have e : u = v := beqV_eq 6 _ _ h
    subst e
    exact callQ_of_does he (does_any hd ha hu H)
  · cases h
end Go.Proofs.YthoanamkoigjeaaGreatDoor.code
/- Forms in memory, and the kit's parts that look at them. -/
set_option linter.unusedVariables false
set_option linter.unusedSimpArgs false
set_option maxRecDepth 100000
namespace Go.Proofs.YthoanamkoigjeaaGreatDoor.code
open Go.Ab

def I64 (n : Int) : Prop := -9223372036854775808 ≤ n ∧ n ≤ 9223372036854775807
theorem w64 {n : Int} (h : I64 n) : IntKind.i64.wrap n = n := by
  rw [IntKind.wrap_i64]; unfold I64 at h; omega
def ints (l : List Int) : List Value := l.map (.int .i64 ·)
theorem ints_get {l : List Int} {i : Nat} (h : i < l.length) : (ints l)[i]? = some (.int .i64 (l.getD i 0)) := by
  simp [ints, List.getElem?_eq_getElem h, List.getD]
theorem ints_length (l : List Int) : (ints l).length = l.length := by simp [ints]
def IsSl (H : Heap) (v : Value) (n : Nat) (cs : List Value) : Prop := ∃ a cap, v = .slice a n cap ∧ (0 < n → ∃ b e ro, a = some ⟨b, 0, none⟩ ∧ H.get b = some (.cells cs e ro))
theorem IsSl.ext {H H' : Heap} {v : Value} {n : Nat} {cs : List Value} (hw : H.Wf) (he : Ext H H') (h : IsSl H v n cs) : IsSl H' v n cs := by
  obtain ⟨a, cap, rfl, h1⟩ := h
  refine ⟨a, cap, rfl, fun hn => ?_⟩
  obtain ⟨b, e, ro, rfl, hb⟩ := h1 hn
  exact ⟨b, e, ro, rfl, by rw [he.get b (hw.lt hb)]; exact hb⟩

theorem isSl_len {H : Heap} {v : Value} {n : Nat} {cs : List Value} (h : IsSl H v n cs) : ∃ a cap, v = .slice a n cap := by
  obtain ⟨a, cap, rfl, _⟩ := h; exact ⟨a, cap, rfl⟩

end Go.Proofs.YthoanamkoigjeaaGreatDoor.code
/- Digits: what the program's and the document's functions of one byte tell. -/
set_option linter.unusedVariables false
set_option maxRecDepth 100000
namespace Go.Proofs.YthoanamkoigjeaaGreatDoor.code
open Go.Ab

def digF (c : Nat) : Nat := bif Nat.ble 48 c && Nat.ble c 57 then c - 48 else bif Nat.ble 97 c && Nat.ble c 122 then c - 87 else bif Nat.ble 65 c && Nat.ble c 90 then c - 55 else 99
def wordF (c : Nat) : Bool := Nat.beq c 95 || Nat.blt (digF c) 99
def hexD (c : Nat) : Nat := bif Nat.ble 48 c && Nat.ble c 57 then c - 48 else bif Nat.ble 97 c && Nat.ble c 102 then c - 87 else 16
noncomputable def byteRun (f : FuncId) (g : Nat → Value) : Bool := (List.range 256).all fun c => isRun f [.int .u8 c] (g c)
theorem callQ_byte {f : FuncId} {g : Nat → Value} (he : entered prog f = true) (hg : ((List.range 256).all fun c => Ab.plain (g c)) = true) (h : byteRun f g = true) (c : Nat) (hc : c < 256) (H : Heap) : CallQ prog f [.int .u8 (c : Int)] H fun u H' => u = g c ∧ H' = H :=
  callQ_run he rfl (List.all_eq_true.1 hg c (List.mem_range.2 hc)) (List.all_eq_true.1 h c (List.mem_range.2 hc)) H
theorem q_ref02_digit (c : Nat) (hc : c < 256) (H : Heap) : CallQ prog f_linotyperef02_digit [.int .u8 (c : Int)] H fun u H' => u = .int .i64 (digF c) ∧ H' = H :=
  callQ_byte (g := fun c => .int .i64 (digF c)) (by kernel_rfl) (by kernel_rfl) (by kernel_rfl) c hc H
theorem q_ref02_Word (c : Nat) (hc : c < 256) (H : Heap) : CallQ prog f_linotyperef02_Word [.int .u8 (c : Int)] H fun u H' => u = .bool (wordF c) ∧ H' = H :=
  callQ_byte (g := fun c => .bool (wordF c)) (by kernel_rfl) (by kernel_rfl) (by kernel_rfl) c hc H
noncomputable def litV (c : Nat) : Value := bif Nat.blt (digF c) 16 then .int .i64 (digF c) else .int .i64 (-1)
theorem q_literal_digit (c : Nat) (hc : c < 256) (H : Heap) : CallQ prog f_literal_digit [.int .u8 (c : Int)] H fun u H' => u = litV c ∧ H' = H :=
  callQ_byte (g := litV) (by kernel_rfl) (by kernel_rfl) (by kernel_rfl) c hc H
theorem q_literal_inWord (c : Nat) (hc : c < 256) (H : Heap) : CallQ prog f_literal_inWord [.int .u8 (c : Int)] H fun u H' => u = .bool (wordF c) ∧ H' = H :=
  callQ_byte (g := fun c => .bool (wordF c)) (by kernel_rfl) (by kernel_rfl) (by kernel_rfl) c hc H
theorem q_ref31_digit (c : Nat) (hc : c < 256) (H : Heap) : CallQ prog f_linotyperef31_digit [.int .u8 (c : Int)] H fun u H' => u = .int .i64 (hexD c) ∧ H' = H :=
  callQ_byte (g := fun c => .int .i64 (hexD c)) (by kernel_rfl) (by kernel_rfl) (by kernel_rfl) c hc H
def hexZ (c : Nat) : Nat := bif Nat.beq (hexD c) 16 then 0 else hexD c
theorem q_listing_digit (c : Nat) (hc : c < 256) (H : Heap) : CallQ prog f_listing_digit [.int .u8 (c : Int)] H fun u H' => u = .int .i64 (hexZ c) ∧ H' = H :=
  callQ_byte (g := fun c => .int .i64 (hexZ c)) (by kernel_rfl) (by kernel_rfl) (by kernel_rfl) c hc H
end Go.Proofs.YthoanamkoigjeaaGreatDoor.code
/- Numbers as texts: the document's. -/
set_option linter.unusedVariables false
set_option linter.unusedSimpArgs false
set_option maxRecDepth 100000
set_option maxHeartbeats 4000000
namespace Go.Proofs.YthoanamkoigjeaaGreatDoor.code
open Go.Ab

theorem w64u {n : Int} (h0 : 0 ≤ n) (h1 : n < 18446744073709551616) : IntKind.u64.wrap n = n := by rw [IntKind.wrap_u64]; omega
def dchr (d : Nat) : UInt8 := (if d < 10 then 48 + d else 87 + d).toUInt8
def dgs (b u : Nat) : List UInt8 := if h : u < b ∨ b < 2 then [dchr u] else dgs b (u / b) ++ [dchr (u % b)]
termination_by u
decreasing_by exact Nat.div_lt_self (by omega) (by omega)
theorem dgs_lt {b u : Nat} (h : u < b) : dgs b u = [dchr u] := by rw [dgs, dif_pos (.inl h)]
theorem dgs_ge {b u : Nat} (h : b ≤ u) (hb : 2 ≤ b) : dgs b u = dgs b (u / b) ++ [dchr (u % b)] := by rw [dgs, dif_neg (by omega)]
theorem dgs_ne (b u : Nat) : dgs b u ≠ [] := by
  rw [dgs]
  split <;> simp
def tellF (n : Int) (b : Nat) (ahead : List UInt8) : List UInt8 := (if n < 0 then [45] else []) ++ ahead ++ dgs b n.natAbs
def hexF (n : Int) : List UInt8 := tellF n 16 [48, 120]
def decF (n : Int) : List UInt8 := tellF n 10 []
theorem dig16 : ∀ d, d < 16 → (([48, 49, 50, 51, 52, 53, 54, 55, 56, 57, 97, 98, 99, 100, 101, 102] : List UInt8).drop d).take 1 = [dchr d] := by decide
theorem q_ref02_tell (n : Int) (hn : I64 n) (b : Nat) (hb : 2 ≤ b) (hb2 : b ≤ 16) (a : List UInt8) (ha : a.length ≤ 100) (H : Heap) : CallQ prog f_linotyperef02_tell [.int .i64 n, .int .u64 (b : Int), .string (mkS a)] H fun u H' => u = .string (mkS (tellF n b a)) ∧ H' = H := by
  refine in_linotyperef02_tell fun hw => ?_
  have hu : ∃ sg : List UInt8, sg.length ≤ 1 ∧ tellF n b a = sg ++ a ++ dgs b n.natAbs ∧ ((n < 0 ∧ sg = [45] ∧ IntKind.u64.wrap (-(IntKind.u64.wrap n)) = (n.natAbs : Int)) ∨ (¬ n < 0 ∧ sg = [] ∧ IntKind.u64.wrap n = (n.natAbs : Int))) := by
    unfold I64 at hn
    by_cases h : n < 0
    · exact ⟨[45], by simp, by simp [tellF, h], .inl ⟨h, rfl, by rw [IntKind.wrap_u64, IntKind.wrap_u64]; omega⟩⟩
    · exact ⟨[], by simp, by simp [tellF, h], .inr ⟨h, rfl, by rw [IntKind.wrap_u64]; omega⟩⟩
  have hnat : n.natAbs < 18446744073709551616 := by unfold I64 at hn; omega
  obtain ⟨sg, hsg, hT, hcase⟩ := hu
  rw [hT]
  generalize hu0 : n.natAbs = u0 at *
  have main : ∀ A : Env, A 1 = .int .u64 (b : Int) → A 2 = .string (mkS a) → A 7 = .int .u64 (u0 : Int) → A 8 = .string (mkS sg) →
      pexec prog pc_linotyperef02_tell_3 ⟨Rt prog F_linotyperef02_tell H fun u H' => u = .string (mkS (sg ++ a ++ dgs b u0)) ∧ H' = H, noEx⟩ (Rt prog F_linotyperef02_tell H fun u H' => u = .string (mkS (sg ++ a ++ dgs b u0)) ∧ H' = H) A H := by
    intro A r1 r2 r7 r8
    simp only [pc_linotyperef02_tell_3, sxA, sxB, Nat.reduceBEq, Nat.reduceEqDiff, reduceCtorEq, mxA, mxB, Nat.reduceAdd, reduceIte, Nat.reduceLeDiff, splice]
    refine loop_intro (fun m A' H' => ∃ (u : Nat) (suf : List UInt8), m = (if suf = [] then u + 1 else u) ∧ H' = H ∧ u * 2 ^ suf.length < 18446744073709551616 ∧ suf.length ≤ 64 ∧ (if u = 0 ∧ suf ≠ [] then suf else dgs b u ++ suf) = dgs b u0 ∧ A' 1 = .int .u64 (b : Int) ∧ A' 2 = .string (mkS a) ∧ A' 7 = .int .u64 (u : Int) ∧ A' 8 = .string (mkS sg) ∧ A' 9 = .string (mkS suf)) (u0 + 1) ?_ ?_
    · refine ⟨u0, [], by simp, rfl, by simpa using hnat, by simp, by simp, ?_, ?_, ?_, ?_, ?_⟩
      all_goals simp only [uxA, uxB, Nat.reduceBEq, r1, r2, r7, r8]
    · rintro m A' H' ⟨u, suf, rfl, hEq, hp, hs, hd, r1, r2, r7, r8, r9⟩
      subst hEq
      have hb0 : ¬ ((b : Int) = 0) := by omega
      have emod : (u : Int).tmod (b : Int) = ((u % b : Nat) : Int) := rfl
      have ediv : IntKind.u64.wrap ((u : Int).tdiv (b : Int)) = ((u / b : Nat) : Int) := by
        have h1 : (u : Int).tdiv (b : Int) = ((u / b : Nat) : Int) := rfl
        have h2 : u / b ≤ u := Nat.div_le_self _ _
        have h3 : u ≤ u * 2 ^ suf.length := Nat.le_mul_of_pos_right _ (Nat.two_pow_pos _)
        rw [h1]
        exact w64u (Int.natCast_nonneg _) (Int.lt_of_le_of_lt (Int.ofNat_le.2 h2) (by omega))
      have hml : u % b < b := Nat.mod_lt _ (by omega)
      have ew : IntKind.u64.wrap (((u % b : Nat) : Int) + 1) = ((u % b + 1 : Nat) : Int) := by rw [w64u (by omega) (by omega)]; rfl
      have hpow : suf.length < 64 ∨ u = 0 := by
        rcases Nat.lt_or_ge suf.length 64 with h | h
        · exact .inl h
        · right
          rcases Nat.eq_zero_or_pos u with h0 | h0
          · exact h0
          · have h1 : 2 ^ 64 ≤ 2 ^ suf.length := Nat.pow_le_pow_right (by decide) h
            have h2 : 2 ^ suf.length ≤ u * 2 ^ suf.length := Nat.le_mul_of_pos_left _ h0
            omega
      have go : ∀ (ks : Kp) (k : Env → Heap → Prop) (A0 : Env), A0 1 = .int .u64 (b : Int) → A0 7 = .int .u64 (u : Int) → A0 9 = .string (mkS suf) → (∀ A1 : Env, A1 1 = A0 1 → A1 2 = A0 2 → A1 8 = A0 8 → A1 7 = .int .u64 ((u / b : Nat) : Int) → A1 9 = .string (mkS (dchr (u % b) :: suf)) → k A1 H') → pexec prog pc_linotyperef02_tell_1 ks k A0 H' := fun ks k A0 q1 q7 q9 hk => by
        simp only [pc_linotyperef02_tell_1, sxA, sxB, Nat.reduceBEq, Nat.reduceEqDiff, reduceCtorEq, mxA, mxB, Nat.reduceAdd, reduceIte, Nat.reduceLeDiff, splice, q1, q7, q9, hb0, emod, ediv, ew]
        rw [gen_slT (l := u % b) (h := u % b + 1) (by kernel_rfl) rfl (by simp only [uxA, uxB, Nat.reduceBEq]; rfl) (by simp only [uxA, uxB, Nat.reduceBEq]; rfl) (by omega) (by simp only [bl_mkS, List.length_cons, List.length_nil]; omega)]
        rw [bl_mkS, Nat.add_sub_cancel_left, dig16 _ (by omega)]
        simp only [sxA, sxB, Nat.reduceBEq, Nat.reduceEqDiff, reduceCtorEq, mxA, mxB, Nat.reduceAdd, reduceIte, Nat.reduceLeDiff, splice, syA, q1, q7, q9, hb0, ediv]
        refine ⟨by omega, hk _ ?_ ?_ ?_ ?_ ?_⟩
        all_goals simp only [uxA, uxB, Nat.reduceBEq]
      have aft : (0 < u ∨ suf = []) → ∀ A1 : Env, A1 1 = .int .u64 (b : Int) → A1 2 = .string (mkS a) → A1 8 = .string (mkS sg) → A1 7 = .int .u64 ((u / b : Nat) : Int) → A1 9 = .string (mkS (dchr (u % b) :: suf)) → ∃ m', m' < (if suf = [] then u + 1 else u) ∧ ∃ (u : Nat) (suf : List UInt8), m' = (if suf = [] then u + 1 else u) ∧ H' = H' ∧ u * 2 ^ suf.length < 18446744073709551616 ∧ suf.length ≤ 64 ∧ (if u = 0 ∧ suf ≠ [] then suf else dgs b u ++ suf) = dgs b u0 ∧ A1 1 = .int .u64 (b : Int) ∧ A1 2 = .string (mkS a) ∧ A1 7 = .int .u64 (u : Int) ∧ A1 8 = .string (mkS sg) ∧ A1 9 = .string (mkS suf) := fun hgo A1 p1 p2 p8 p7 p9 => by
        have hlt : u / b < u ∨ u = 0 := by
          rcases Nat.eq_zero_or_pos u with h | h
          · exact .inr h
          · exact .inl (Nat.div_lt_self h (by omega))
        refine ⟨u / b, ?_, u / b, dchr (u % b) :: suf, by simp, rfl, ?_, ?_, ?_, p1, p2, p7, p8, p9⟩
        · rcases hgo with h | h
          · split <;> omega
          · rw [if_pos h]; have := Nat.div_le_self u b; omega
        · rw [List.length_cons, Nat.pow_succ]
          have h1 : u / b * 2 ≤ u := Nat.le_trans (Nat.mul_le_mul_left _ hb) (Nat.div_mul_le_self u b)
          have h2 : u / b * 2 * 2 ^ suf.length ≤ u * 2 ^ suf.length := Nat.mul_le_mul_right _ h1
          have h3 : u / b * (2 ^ suf.length * 2) = u / b * 2 * 2 ^ suf.length := by rw [Nat.mul_comm (2 ^ suf.length) 2, Nat.mul_assoc]
          omega
        · rw [List.length_cons]
          rcases hpow with h | h
          · omega
          · rcases hgo with h1 | h1
            · omega
            · rw [h1]; simp
        · rw [← hd]
          have e1 : (if u = 0 ∧ suf ≠ [] then suf else dgs b u ++ suf) = dgs b u ++ suf := if_neg fun ⟨h1, h2⟩ => hgo.elim (fun h => by omega) h2
          rw [e1]
          by_cases hub : u < b
          · have : u / b = 0 := Nat.div_eq_of_lt hub
            rw [if_pos ⟨this, by simp⟩, dgs_lt hub, Nat.mod_eq_of_lt hub]; rfl
          · have : 0 < u / b := Nat.div_pos (by omega) (by omega)
            rw [if_neg (fun h => absurd h.1 (Nat.pos_iff_ne_zero.1 this)), dgs_ge (u := u) (by omega) hb, List.append_assoc]; rfl
      by_cases h0 : 0 < u
      · have e0 : decide ((0 : Int) < (u : Int)) = true := decide_eq_true (by omega)
        simp only [pc_linotyperef02_tell_2, sxA, sxB, Nat.reduceBEq, Nat.reduceEqDiff, reduceCtorEq, mxA, mxB, Nat.reduceAdd, reduceIte, Nat.reduceLeDiff, splice, syA, r1, r2, r7, r8, r9, e0]
        refine go _ _ _ ?_ ?_ ?_ fun A1 p1 p2 p8 p7 p9 => aft (.inl h0) A1 (p1.trans ?_) (p2.trans ?_) (p8.trans ?_) p7 p9
        all_goals simp only [uxA, uxB, Nat.reduceBEq, r1, r2, r7, r8, r9]
      · have e0 : decide ((0 : Int) < (u : Int)) = false := decide_eq_false (by omega)
        have hu0 : u = 0 := by omega
        by_cases hsuf : suf = []
        · have e1 : (suf == []) = true := by rw [hsuf]; rfl
          simp only [pc_linotyperef02_tell_2, sxA, sxB, Nat.reduceBEq, Nat.reduceEqDiff, reduceCtorEq, mxA, mxB, Nat.reduceAdd, reduceIte, Nat.reduceLeDiff, splice, syA, r1, r2, r7, r8, r9, e0, e1]
          refine go _ _ _ ?_ ?_ ?_ fun A1 p1 p2 p8 p7 p9 => aft (.inr hsuf) A1 (p1.trans ?_) (p2.trans ?_) (p8.trans ?_) p7 p9
          all_goals simp only [uxA, uxB, Nat.reduceBEq, r1, r2, r7, r8, r9]
        · have e1 : (suf == []) = false := beq_eq_false_iff_ne.2 hsuf
          simp only [pc_linotyperef02_tell_2, sxA, sxB, Nat.reduceBEq, Nat.reduceEqDiff, reduceCtorEq, mxA, mxB, Nat.reduceAdd, reduceIte, Nat.reduceLeDiff, splice, syA, r1, r2, r7, r8, r9, e0, e1]
          have hd2 : suf = dgs b u0 := by rw [← hd, if_pos ⟨hu0, hsuf⟩]
          rw [← hd2]
          simp only [List.length_append, ret_linotyperef02_tell, uxA, uxB, Nat.reduceBEq, sxA, sxB, Nat.reduceBEq, Nat.reduceEqDiff, reduceCtorEq]
          exact ⟨by omega, by omega, .mk (Nat.le_refl _) ⟨rfl, rfl⟩⟩
  rcases hcase with ⟨h1, rfl, h2⟩ | ⟨h1, rfl, h2⟩
  · simp only [pc_linotyperef02_tell, sxA, sxB, Nat.reduceBEq, Nat.reduceEqDiff, reduceCtorEq, mxA, mxB, Nat.reduceAdd, reduceIte, Nat.reduceLeDiff, splice, decide_eq_true h1]
    rw [gen_negI (ik := .u64) (n := IntKind.u64.wrap n) (by simp only [uxA, uxB, Nat.reduceBEq])]
    simp only [sxA, sxB, Nat.reduceBEq, Nat.reduceEqDiff, reduceCtorEq, mxA, mxB, Nat.reduceAdd, reduceIte, Nat.reduceLeDiff, splice, h2]
    exact main _ (by simp only [uxA, uxB, Nat.reduceBEq]) (by simp only [uxA, uxB, Nat.reduceBEq]) (by simp only [uxA, uxB, Nat.reduceBEq]) (by simp only [uxA, uxB, Nat.reduceBEq])
  · simp only [pc_linotyperef02_tell, sxA, sxB, Nat.reduceBEq, Nat.reduceEqDiff, reduceCtorEq, mxA, mxB, Nat.reduceAdd, reduceIte, Nat.reduceLeDiff, splice, decide_eq_false h1, h2]
    exact main _ (by simp only [uxA, uxB, Nat.reduceBEq]) (by simp only [uxA, uxB, Nat.reduceBEq]) (by simp only [uxA, uxB, Nat.reduceBEq]) (by simp only [uxA, uxB, Nat.reduceBEq])
theorem q_ref02_Hex (n : Int) (hn : I64 n) (H : Heap) : CallQ prog f_linotyperef02_Hex [.int .i64 n] H fun u H' => u = .string (mkS (hexF n)) ∧ H' = H := by
  refine in_linotyperef02_Hex fun hw => ?_
  simp only [pc_linotyperef02_Hex, sxA, sxB, Nat.reduceBEq, Nat.reduceEqDiff, reduceCtorEq, mxA, mxB, Nat.reduceAdd, reduceIte, Nat.reduceLeDiff, splice]
  refine (q_ref02_tell n hn 16 (by decide) (by decide) [48, 120] (by decide) H).thenW ?_
  rintro _ H _ hw ⟨rfl, rfl⟩
  simp only [sxA, sxB, Nat.reduceBEq, Nat.reduceEqDiff, reduceCtorEq, mxA, mxB, Nat.reduceAdd, reduceIte, Nat.reduceLeDiff, splice, ret_linotyperef02_Hex]
  exact .mk (Nat.le_refl _) ⟨rfl, rfl⟩
theorem q_ref02_Dec (n : Int) (hn : I64 n) (H : Heap) : CallQ prog f_linotyperef02_Dec [.int .i64 n] H fun u H' => u = .string (mkS (decF n)) ∧ H' = H := by
  refine in_linotyperef02_Dec fun hw => ?_
  simp only [pc_linotyperef02_Dec, sxA, sxB, Nat.reduceBEq, Nat.reduceEqDiff, reduceCtorEq, mxA, mxB, Nat.reduceAdd, reduceIte, Nat.reduceLeDiff, splice]
  refine (q_ref02_tell n hn 10 (by decide) (by decide) [] (by decide) H).thenW ?_
  rintro _ H _ hw ⟨rfl, rfl⟩
  simp only [sxA, sxB, Nat.reduceBEq, Nat.reduceEqDiff, reduceCtorEq, mxA, mxB, Nat.reduceAdd, reduceIte, Nat.reduceLeDiff, splice, ret_linotyperef02_Dec]
  exact .mk (Nat.le_refl _) ⟨rfl, rfl⟩
end Go.Proofs.YthoanamkoigjeaaGreatDoor.code
/- Numbers in base 16: the program's. -/
set_option linter.unusedVariables false
set_option linter.unusedSimpArgs false
set_option maxRecDepth 100000
set_option maxHeartbeats 4000000
namespace Go.Proofs.YthoanamkoigjeaaGreatDoor.code
open Go.Ab

def u8v (l : List UInt8) : List Value := l.map fun b => .int .u8 (b.toNat : Int)
theorem u8v_len (l : List UInt8) : (u8v l).length = l.length := by simp [u8v]
theorem u8_back (b : UInt8) : (b.toNat : Int).toNat.toUInt8 = b := by simp
theorem bytesIn_u8v : ∀ l : List UInt8, bytesIn (u8v l) = some l
  | [] => rfl
  | b :: l => by
    show (bytesIn (u8v l)).map ((b.toNat : Int).toNat.toUInt8 :: ·) = _
    rw [bytesIn_u8v l, u8_back]; rfl
theorem u8v_all (l : List UInt8) : (u8v l).all (·.oneCell') = true := by
  rw [List.all_eq_true]
  intro v hv
  obtain ⟨b, _, rfl⟩ := List.mem_map.1 hv
  rfl
theorem splice_drop {c l : List Value} {i : Nat} {v : Value} (hi : i < c.length) (hd : c.drop (i + 1) = l) : (splice c i [v]).drop i = v :: l := by
  unfold splice
  rw [List.drop_append_of_le_length (by simp; omega), List.drop_eq_nil_of_le (by simp; omega)]
  simp [hd]
theorem dig36 : ∀ d, d < 36 → ([48, 49, 50, 51, 52, 53, 54, 55, 56, 57, 97, 98, 99, 100, 101, 102, 103, 104, 105, 106, 107, 108, 109, 110, 111, 112, 113, 114, 115, 116, 117, 118, 119, 120, 121, 122] : List UInt8)[d]? = some (dchr d) := by decide
theorem and15 {u : Nat} (h : u < 18446744073709551616) : IntKind.u64.wrap ((BitVec.ofInt IntKind.u64.bits (u : Int) &&& BitVec.ofInt IntKind.u64.bits 15).toNat) = ((u % 16 : Nat) : Int) := by
  have e : (BitVec.ofInt IntKind.u64.bits (u : Int) &&& BitVec.ofInt IntKind.u64.bits 15).toNat = u % 16 := by
    have hb : IntKind.u64.bits = 64 := rfl
    rw [BitVec.toNat_and, BitVec.toNat_ofInt, BitVec.toNat_ofInt, hb]
    have h1 : ((u : Int) % ((2 ^ 64 : Nat) : Int)).toNat = u := by omega
    have h2 : ((15 : Int) % ((2 ^ 64 : Nat) : Int)).toNat = 2 ^ 4 - 1 := rfl
    rw [h1, h2, Nat.and_two_pow_sub_one_eq_mod]
  rw [e, w64u (by omega) (by omega)]
theorem shr4 (u : Nat) : (u : Int).fdiv (2 ^ (min (4 : Int).toNat IntKind.u64.bits)) = ((u / 16 : Nat) : Int) := by
  have e : (2 : Int) ^ (min (4 : Int).toNat IntKind.u64.bits) = 16 := rfl
  rw [e, Int.fdiv_eq_ediv_of_nonneg _ (by decide)]
  rfl

structure Tq (T : Heap → Prop) : Prop where
  ext : ∀ H H', H.Wf → T H → Ext H H' → T H'
  tz : ∀ H, T H → CallQ prog f_math_bits_TrailingZeros [.int .u64 16] H fun u H' => u = .int .i64 4 ∧ H' = H
theorem q_isPow (H : Heap) : CallQ prog f_internal_strconv_isPowerOfTwo [.int .i64 16] H fun u H' => u = .bool true ∧ H' = H :=
  callQ_run (by kernel_rfl) rfl rfl (by kernel_rfl) H
theorem q_formatBits {T : Heap → Prop} (hT : Tq T) (u0 : Nat) (hu : u0 < 18446744073709551616) (H : Heap) (hTH : T H) :
    CallQ prog f_internal_strconv_formatBits [.slice none 0 0, .int .u64 (u0 : Int), .int .i64 16, .bool false, .bool false] H fun v H' => v = .tuple #[.slice none 0 0, .string (mkS (dgs 16 u0))] ∧ Ext H H' := by
  refine in_internal_strconv_formatBits fun hw => ?_
  have e1 : decide ((16 : Int) < 2) = false := rfl
  have e2 : ((16 : Int) == 10) = false := rfl
  have e3 : decide ((36 : Int) < 16) = false := rfl
  simp only [pc_internal_strconv_formatBits, pc_internal_strconv_formatBits_10, pc_internal_strconv_formatBits_9, sxA, sxB, Nat.reduceBEq, Nat.reduceEqDiff, reduceCtorEq, mxA, mxB, Nat.reduceAdd, reduceIte, Nat.reduceLeDiff, splice, e1, e2, e3]
  generalize hz : ([.int .u8 0, .int .u8 0, .int .u8 0, .int .u8 0, .int .u8 0, .int .u8 0, .int .u8 0, .int .u8 0, .int .u8 0, .int .u8 0, .int .u8 0, .int .u8 0, .int .u8 0, .int .u8 0, .int .u8 0, .int .u8 0, .int .u8 0, .int .u8 0, .int .u8 0, .int .u8 0, .int .u8 0, .int .u8 0, .int .u8 0, .int .u8 0, .int .u8 0, .int .u8 0, .int .u8 0, .int .u8 0, .int .u8 0, .int .u8 0, .int .u8 0, .int .u8 0, .int .u8 0, .int .u8 0, .int .u8 0, .int .u8 0, .int .u8 0, .int .u8 0, .int .u8 0, .int .u8 0, .int .u8 0, .int .u8 0, .int .u8 0, .int .u8 0, .int .u8 0, .int .u8 0, .int .u8 0, .int .u8 0, .int .u8 0, .int .u8 0, .int .u8 0, .int .u8 0, .int .u8 0, .int .u8 0, .int .u8 0, .int .u8 0, .int .u8 0, .int .u8 0, .int .u8 0, .int .u8 0, .int .u8 0, .int .u8 0, .int .u8 0, .int .u8 0, .int .u8 0] : List Value) = c0
  have hc0 : c0.length = 65 := by rw [← hz]; rfl
  clear hz
  refine (q_isPow _).thenW ?_
  rintro _ H1 _ hw1 ⟨rfl, h1⟩
  obtain ⟨e, h1⟩ : ∃ e, H1 = H.push (.cells c0 e false) := ⟨_, h1⟩
  have hx1 : Ext H H1 := by rw [h1]; exact (Ext.refl H).push _
  have hg1 : H1.get H.next = some (.cells c0 e false) := by rw [h1, Heap.get_push, if_pos rfl]
  have hn1 : H1.next = H.next + 1 := by rw [h1, Heap.next_push]
  clear h1
  simp only [pc_internal_strconv_formatBits_5, sxA, sxB, Nat.reduceBEq, Nat.reduceEqDiff, reduceCtorEq, mxA, mxB, Nat.reduceAdd, reduceIte, Nat.reduceLeDiff, splice, show IntKind.u64.wrap 16 = 16 from rfl, show IntKind.u64.wrap (16 - 1) = 15 from rfl]
  refine (hT.tz _ (hT.ext _ _ hw hTH hx1)).thenW ?_
  rintro _ H2 _ hw2 ⟨rfl, rfl⟩
  simp only [sxA, sxB, Nat.reduceBEq, Nat.reduceEqDiff, reduceCtorEq, mxA, mxB, Nat.reduceAdd, reduceIte, Nat.reduceLeDiff, splice, show IntKind.u64.wrap 4 = 4 from rfl]
  refine loop_intro (fun m A' H' => ∃ (u : Nat) (suf : List UInt8) (c : List Value), u = m ∧ u < 18446744073709551616 ∧ u * 16 ^ suf.length < 18446744073709551616 ∧ Ext H H' ∧ H'.next = H.next + 1 ∧ H'.Wf ∧ H'.get H.next = some (.cells c e false) ∧ c.length = 65 ∧ (0 < u ∨ suf = []) ∧ c.drop (65 - suf.length) = u8v suf ∧ dgs 16 u ++ suf = dgs 16 u0 ∧ A' 1 = .int .u64 (u : Int) ∧ A' 3 = .bool false ∧ A' 4 = .bool false ∧ A' 12 = .pointer (some ⟨H.next, 0, none⟩) ∧ A' 13 = .int .i64 ((65 - suf.length : Nat) : Int) ∧ A' 10 = .slice none 0 0 ∧ A' 14 = .int .u64 4 ∧ A' 15 = .int .u64 16 ∧ A' 16 = .int .u64 15) u0 ?_ ?_
  · refine ⟨u0, [], c0, rfl, hu, by simpa using hu, hx1, hn1, hw2, hg1, hc0, .inr rfl, by simp [hc0, u8v], by simp, ?_, ?_, ?_, ?_, ?_, ?_, ?_, ?_, ?_⟩
    all_goals simp only [uxA, uxB, Nat.reduceBEq]
    all_goals rfl
  · rintro m A' H' ⟨u, suf, c, rfl, hu1, hp, hx, hn, hw', hg, hcl, hs, hcd, hd, r1, r3, r4, r12, r13, r10, r14, r15, r16⟩
    have hs15 : suf.length ≤ 15 := by
      rcases hs with h | h
      · rcases Nat.lt_or_ge suf.length 16 with h1 | h1
        · omega
        · have h2 : 16 ^ 16 ≤ 16 ^ suf.length := Nat.pow_le_pow_right (by decide) h1
          have h3 : 16 ^ suf.length ≤ u * 16 ^ suf.length := Nat.le_mul_of_pos_left _ h
          omega
      · rw [h]; simp
    have ei : IntKind.i64.wrap (((65 - suf.length : Nat) : Int) - 1) = ((65 - (suf.length + 1) : Nat) : Int) := by rw [w64 (by unfold I64; omega)]; omega
    have hi : 65 - (suf.length + 1) < c.length := by omega
    have hd1 : c.drop (65 - (suf.length + 1) + 1) = u8v suf := by rw [show 65 - (suf.length + 1) + 1 = 65 - suf.length by omega]; exact hcd
    have wr : ∀ b : UInt8, (splice c (65 - (suf.length + 1)) [.int .u8 (b.toNat : Int)]).drop (65 - (suf.length + 1)) = u8v (b :: suf) := fun b => splice_drop hi hd1
    have wl : ∀ v : Value, (splice c (65 - (suf.length + 1)) [v]).length = 65 := fun v => by rw [splice_length (by simp; omega)]; exact hcl
    have hle : 65 - (suf.length + 1) + 1 ≤ c.length := by omega
    have hset : ∀ c', Ext H (H'.set H.next (.cells c' e false)) := fun c' => hx.set (Nat.le_refl _) _
    generalize hio : 65 - (suf.length + 1) = io at *
    by_cases h16 : 16 ≤ u
    · have e4 : decide ((16 : Int) ≤ (u : Int)) = true := decide_eq_true (by omega)
      have hm : u % 16 < 36 := by omega
      have t1 : ((u % 16 : Nat) : Int).toNat = u % 16 := Int.toNat_natCast _
      have t2 : (0 : Int) ≤ ((u % 16 : Nat) : Int) := Int.natCast_nonneg _
      have t3 : (0 : Int) ≤ 4 := by decide
      simp only [pc_internal_strconv_formatBits_4, pc_internal_strconv_formatBits_3, sxA, sxB, Nat.reduceBEq, Nat.reduceEqDiff, reduceCtorEq, mxA, mxB, Nat.reduceAdd, reduceIte, Nat.reduceLeDiff, splice, r1, r3, r4, r12, r13, r10, r14, r15, r16, e4, ei, and15 hu1, Zbw, bl_mkS, t1, t2, dig36 _ hm]
      rw [gen_arrAt (n := 65) (size := 1) (b := H.next) (o := 0) (i := io) (ik := .i64) (by kernel_rfl) (by simp only [uxA, uxB, Nat.reduceBEq, r12]) (by simp only [uxA, uxB, Nat.reduceBEq]) (by omega)]
      simp only [sxA, sxB, Nat.reduceBEq, Nat.reduceEqDiff, reduceCtorEq, mxA, mxB, Nat.reduceAdd, reduceIte, Nat.reduceLeDiff, hg, r1, r14, shr4, t3, hle]
      refine ⟨u / 16, by omega, u / 16, dchr (u % 16) :: suf, splice c io [.int .u8 ((dchr (u % 16)).toNat : Int)], rfl, by omega, ?_, hset _, hn, hw'.set hg _, by rw [Heap.get_set, if_pos rfl], wl _, .inl (by omega), ?_, ?_, ?_, ?_, ?_, ?_, ?_, ?_, ?_, ?_, ?_⟩
      · rw [List.length_cons, Nat.pow_succ]
        have h1 : u / 16 * 16 ≤ u := Nat.div_mul_le_self u 16
        have h2 : u / 16 * 16 * 16 ^ suf.length ≤ u * 16 ^ suf.length := Nat.mul_le_mul_right _ h1
        have h3 : u / 16 * (16 ^ suf.length * 16) = u / 16 * 16 * 16 ^ suf.length := by rw [Nat.mul_comm (16 ^ suf.length) 16, Nat.mul_assoc]
        omega
      · rw [List.length_cons, hio]; exact wr _
      · rw [← hd, dgs_ge (u := u) h16 (by decide), List.append_assoc]; rfl
      all_goals simp only [uxA, uxB, Nat.reduceBEq, r1, r3, r4, r12, r13, r10, r14, r15, r16]
      rw [List.length_cons, hio]
    · have e4 : decide ((16 : Int) ≤ (u : Int)) = false := decide_eq_false (by omega)
      have t1 : (u : Int).toNat = u := Int.toNat_natCast _
      have t2 : (0 : Int) ≤ (u : Int) := Int.natCast_nonneg _
      simp only [pc_internal_strconv_formatBits_4, sxA, sxB, Nat.reduceBEq, Nat.reduceEqDiff, reduceCtorEq, mxA, mxB, Nat.reduceAdd, reduceIte, Nat.reduceLeDiff, splice, r1, r3, r4, r12, r13, r10, r14, r15, r16, e4, ei, Zbw, bl_mkS, t1, t2, dig36 u (by omega)]
      rw [gen_arrAt (n := 65) (size := 1) (b := H.next) (o := 0) (i := io) (ik := .i64) (by kernel_rfl) (by simp only [uxA, uxB, Nat.reduceBEq, r12]) (by simp only [uxA, uxB, Nat.reduceBEq]) (by omega)]
      simp only [sxA, sxB, Nat.reduceBEq, Nat.reduceEqDiff, reduceCtorEq, mxA, mxB, Nat.reduceAdd, reduceIte, Nat.reduceLeDiff, hg, r3, hle, pc_internal_strconv_formatBits_2, pc_internal_strconv_formatBits_1, r4]
      rw [gen_arrSl (n := 65) (size := 1) (b := H.next) (o := 0) (l := io) (h := 65) (by kernel_rfl) (by simp only [uxA, uxB, Nat.reduceBEq, r12]) (.inl (by simp only [boundOf, uxA, uxB, Nat.reduceBEq])) (.inr ⟨rfl, rfl⟩) (by omega) (by omega) (by unfold UNK; decide)]
      simp only [sxA, sxB, Nat.reduceBEq, Nat.reduceEqDiff, reduceCtorEq]
      have hfin : u8v (dchr u :: suf) = u8v (dgs 16 u0) := by rw [← hd, dgs_lt (by omega)]; rfl
      rw [gen_toStr (n := 65 - io) (c := 65 - io) (a := some ⟨H.next, 0 + io * 1, none⟩) (vs := u8v (dgs 16 u0)) (bs := dgs 16 u0) (by kernel_rfl) (by simp only [uxA, uxB, Nat.reduceBEq]) (by
        simp only [sliceCells]
        rw [if_neg (by omega), Heap.get_set, if_pos rfl]
        simp only []
        rw [if_pos (by rw [wl]; omega)]
        simp only [Nat.zero_add, Nat.mul_one]
        rw [wr, hfin, List.take_of_length_le]
        rw [← hfin, u8v_len, List.length_cons]; omega) (bytesIn_u8v _)]
      simp only [sxA, sxB, Nat.reduceBEq, Nat.reduceEqDiff, reduceCtorEq, ret_internal_strconv_formatBits, r10]
      exact .mk (by rw [Heap.next_set]; omega) ⟨rfl, hset _⟩
theorem q_FormatUint16 {T : Heap → Prop} (hT : Tq T) (u : Nat) (hu : u < 18446744073709551616) (H : Heap) (hTH : T H) : CallQ prog f_strconv_FormatUint [.int .u64 (u : Int), .int .i64 16] H fun v H' => v = .string (mkS (dgs 16 u)) ∧ Ext H H' := by
  refine in_strconv_FormatUint fun hw => ?_
  simp only [pc_strconv_FormatUint, sxA, sxB, Nat.reduceBEq, Nat.reduceEqDiff, reduceCtorEq, mxA, mxB, Nat.reduceAdd, reduceIte, Nat.reduceLeDiff, splice]
  have h2 : CallQ prog f_internal_strconv_FormatUint [.int .u64 (u : Int), .int .i64 16] H fun v H' => v = .string (mkS (dgs 16 u)) ∧ Ext H H' := by
    refine in_internal_strconv_FormatUint fun hw => ?_
    have e2 : ((16 : Int) == 10) = false := rfl
    simp only [pc_internal_strconv_FormatUint, sxA, sxB, Nat.reduceBEq, Nat.reduceEqDiff, reduceCtorEq, mxA, mxB, Nat.reduceAdd, reduceIte, Nat.reduceLeDiff, splice, e2]
    refine (q_formatBits hT u hu H hTH).thenW ?_
    rintro _ H1 _ hw1 ⟨rfl, hx⟩
    simp only [sxA, sxB, Nat.reduceBEq, Nat.reduceEqDiff, reduceCtorEq, mxA, mxB, Nat.reduceAdd, reduceIte, Nat.reduceLeDiff, splice, ret_internal_strconv_FormatUint]
    exact .mk hx.next ⟨rfl, hx⟩
  refine h2.thenW ?_
  rintro _ H1 _ hw1 ⟨rfl, hx⟩
  simp only [sxA, sxB, Nat.reduceBEq, Nat.reduceEqDiff, reduceCtorEq, mxA, mxB, Nat.reduceAdd, reduceIte, Nat.reduceLeDiff, splice, ret_strconv_FormatUint]
  exact .mk hx.next ⟨rfl, hx⟩
theorem dgs16_len : ∀ (n u : Nat), u < 16 ^ (n + 1) → (dgs 16 u).length ≤ n + 1
  | 0, u, h => by rw [dgs_lt (by omega)]; simp
  | n + 1, u, h => by
    by_cases h16 : 16 ≤ u
    · rw [dgs_ge h16 (by decide), List.length_append]
      have := dgs16_len n (u / 16) (by rw [Nat.pow_succ] at h; omega)
      simp only [List.length_cons, List.length_nil]
      omega
    · rw [dgs_lt (by omega)]; simp
theorem q_literal_Hex {T : Heap → Prop} (hT : Tq T) (n : Int) (hn : I64 n) (H : Heap) (hTH : T H) : CallQ prog f_literal_Hex [.int .i64 n] H fun v H' => v = .string (mkS (hexF n)) ∧ Ext H H' := by
  refine in_literal_Hex fun hw => ?_
  have hnat : n.natAbs < 18446744073709551616 := by unfold I64 at hn; omega
  have hlen : (dgs 16 n.natAbs).length ≤ 16 := dgs16_len 15 _ hnat
  unfold I64 at hn
  by_cases h : n < 0
  · have eu : IntKind.u64.wrap (-(IntKind.u64.wrap n)) = (n.natAbs : Int) := by rw [IntKind.wrap_u64, IntKind.wrap_u64]; omega
    simp only [pc_literal_Hex, sxA, sxB, Nat.reduceBEq, Nat.reduceEqDiff, reduceCtorEq, mxA, mxB, Nat.reduceAdd, reduceIte, Nat.reduceLeDiff, splice, decide_eq_true h]
    rw [gen_negI (ik := .u64) (n := IntKind.u64.wrap n) (by simp only [uxA, uxB, Nat.reduceBEq])]
    simp only [sxA, sxB, Nat.reduceBEq, Nat.reduceEqDiff, reduceCtorEq, mxA, mxB, Nat.reduceAdd, reduceIte, Nat.reduceLeDiff, splice, eu]
    refine (q_FormatUint16 hT _ hnat H hTH).thenW ?_
    rintro _ H1 _ hw1 ⟨rfl, hx⟩
    simp only [sxA, sxB, Nat.reduceBEq, Nat.reduceEqDiff, reduceCtorEq, mxA, mxB, Nat.reduceAdd, reduceIte, Nat.reduceLeDiff, splice, syA, ret_literal_Hex]
    exact ⟨by omega, .mk hx.next ⟨by simp [hexF, tellF, h], hx⟩⟩
  · have eu : IntKind.u64.wrap n = (n.natAbs : Int) := by rw [IntKind.wrap_u64]; omega
    simp only [pc_literal_Hex, sxA, sxB, Nat.reduceBEq, Nat.reduceEqDiff, reduceCtorEq, mxA, mxB, Nat.reduceAdd, reduceIte, Nat.reduceLeDiff, splice, decide_eq_false h, eu]
    refine (q_FormatUint16 hT _ hnat H hTH).thenW ?_
    rintro _ H1 _ hw1 ⟨rfl, hx⟩
    simp only [sxA, sxB, Nat.reduceBEq, Nat.reduceEqDiff, reduceCtorEq, mxA, mxB, Nat.reduceAdd, reduceIte, Nat.reduceLeDiff, splice, syA, ret_literal_Hex]
    exact ⟨by omega, .mk hx.next ⟨by simp [hexF, tellF, h], hx⟩⟩
end Go.Proofs.YthoanamkoigjeaaGreatDoor.code
/- Literals of numbers: the document's. -/
set_option linter.unusedVariables false
set_option linter.unusedSimpArgs false
set_option maxRecDepth 100000
set_option maxHeartbeats 4000000
namespace Go.Proofs.YthoanamkoigjeaaGreatDoor.code
open Go.Ab

def begF (w : List UInt8) (c d : UInt8) : Bool := match w with
  | a :: b :: _ :: _ => a == 48 && (b == c || b == d)
  | _ => false
def baseF (w : List UInt8) : Nat × Nat × Nat :=
  bif begF w 120 88 then (16, 2, w.length) else bif w.getLast? == some 104 || w.getLast? == some 72 then (16, 0, w.length - 1) else bif begF w 98 66 then (2, 2, w.length) else bif begF w 111 79 then (8, 2, w.length) else (10, 0, w.length)
def digsG (of : Nat) : List UInt8 → Bool → Nat → Nat → Nat ⊕ Nat
  | [], _, _, acc => .inr acc
  | c :: l, prev, pos, acc => bif c == 95 then (bif prev || l.isEmpty then .inl pos else digsG of l true (pos + 1) acc) else bif Nat.blt (digF c.toNat) of then digsG of l false (pos + 1) (acc * of + digF c.toNat) else .inl pos
def numF (w : List UInt8) : Nat × Nat ⊕ Nat :=
  let b := baseF w
  let d := (w.take b.2.2).drop b.2.1
  match digsG b.1 d true b.2.1 0 with
  | .inl p => .inl (4, p)
  | .inr acc => bif d.isEmpty then .inl (4, b.2.2) else bif Nat.ble 18446744073709551616 acc then .inl (5, 0) else .inr acc
def fltV (e a : Int) : Value := .agg [.int .i64 e, .int .i64 a].toArray
def numV : Nat × Nat ⊕ Nat → Value
  | .inl (e, p) => .tuple #[.int .i64 0, fltV e p]
  | .inr n => .tuple #[.int .i64 (IntKind.i64.wrap n), fltV 0 0]
theorem u8eq (a : UInt8) (b : Nat) (hb : b < 256) : ((a.toNat : Int) == (b : Int)) = (a == b.toUInt8) := by
  have hl : a.toNat < 256 := a.toNat_lt
  rw [Bool.eq_iff_iff, beq_iff_eq, beq_iff_eq]
  constructor
  · intro h
    have h : a.toNat = b := by omega
    rw [← h]; simp
  · intro h
    rw [h]
    have : b.toUInt8.toNat = b := by simp; omega
    omega
theorem q_ref02_begins (w : List UInt8) (c d : UInt8) (hd : IntKind.u8.wrap ((c.toNat : Int) - 32) = (d.toNat : Int)) (hw : w.length ≤ 1000000) (H : Heap) : CallQ prog f_linotyperef02_begins [.string (mkS w), .int .u8 (c.toNat : Int)] H fun u H' => u = .bool (begF w c d) ∧ H' = H := by
  have ec : ∀ x y : UInt8, ((x.toNat : Int) == (y.toNat : Int)) = (x == y) := fun x y => by
    rw [u8eq x y.toNat y.toNat_lt]; simp
  refine in_linotyperef02_begins fun hw => ?_
  by_cases h2 : (2 : Int) < w.length
  · obtain ⟨x, y, z, r, rfl⟩ : ∃ x y z r, w = x :: y :: z :: r := by
      match w, h2 with
      | [], h | [_], h | [_, _], h => simp at h <;> omega
      | x :: y :: z :: r, _ => exact ⟨x, y, z, r, rfl⟩
    have t0 : (0 : Int) ≤ 0 := by decide
    have t1 : (0 : Int) ≤ 1 := by decide
    have u0 : (0 : Int).toNat = 0 := rfl
    have u1 : (1 : Int).toNat = 1 := rfl
    have e48 : ((x.toNat : Int) == 48) = (x == 48) := u8eq x 48 (by decide)
    have e2 : decide ((2 : Int) < ((r.length + 1 + 1 + 1 : Nat) : Int)) = true := decide_eq_true (by omega)
    simp only [pc_linotyperef02_begins, sxA, sxB, Nat.reduceBEq, Nat.reduceEqDiff, reduceCtorEq, mxA, mxB, Nat.reduceAdd, reduceIte, Nat.reduceLeDiff, splice, Zdk, bl_mkS, Zbw, e2, t0, t1, u0, u1, e48, begF]
    cases hx : x == 48 with
    | false =>
      simp only [sxA, sxB, Nat.reduceBEq, Nat.reduceEqDiff, reduceCtorEq, mxA, mxB, Nat.reduceAdd, reduceIte, Nat.reduceLeDiff, splice, ret_linotyperef02_begins]
      exact .mk (Nat.le_refl _) ⟨rfl, rfl⟩
    | true =>
      simp only [sxA, sxB, Nat.reduceBEq, Nat.reduceEqDiff, reduceCtorEq, mxA, mxB, Nat.reduceAdd, reduceIte, Nat.reduceLeDiff, splice, Zdk, bl_mkS, Zbw, t0, t1, u0, u1, ec]
      cases hy : y == c with
      | true =>
        simp only [sxA, sxB, Nat.reduceBEq, Nat.reduceEqDiff, reduceCtorEq, mxA, mxB, Nat.reduceAdd, reduceIte, Nat.reduceLeDiff, splice, ret_linotyperef02_begins]
        exact .mk (Nat.le_refl _) ⟨rfl, rfl⟩
      | false =>
        simp only [sxA, sxB, Nat.reduceBEq, Nat.reduceEqDiff, reduceCtorEq, mxA, mxB, Nat.reduceAdd, reduceIte, Nat.reduceLeDiff, splice, Zdk, bl_mkS, Zbw, t0, t1, u0, u1, hd, ec, ret_linotyperef02_begins]
        exact .mk (Nat.le_refl _) ⟨by simp, rfl⟩
  · have e : begF w c d = false := by
      unfold begF
      split
      · rename_i hw; simp at h2; omega
      · rfl
    rw [e]
    simp only [pc_linotyperef02_begins, sxA, sxB, Nat.reduceBEq, Nat.reduceEqDiff, reduceCtorEq, mxA, mxB, Nat.reduceAdd, reduceIte, Nat.reduceLeDiff, splice, Zdk, bl_mkS, decide_eq_false h2, ret_linotyperef02_begins]
    exact .mk (Nat.le_refl _) ⟨rfl, rfl⟩
theorem q_ref02_base (w : List UInt8) (h0 : w ≠ []) (hl : w.length ≤ 1000000) (H : Heap) : CallQ prog f_linotyperef02_base [.string (mkS w)] H fun u H' => u = .tuple #[.int .i64 (baseF w).1, .int .i64 (baseF w).2.1, .int .i64 (baseF w).2.2] ∧ H' = H := by
  refine in_linotyperef02_base fun hw => ?_
  have hlen : 0 < w.length := List.length_pos_iff.2 h0
  have e1 : IntKind.i64.wrap ((w.length : Int) - 1) = ((w.length - 1 : Nat) : Int) := by rw [w64 (by unfold I64; omega)]; omega
  have t0 : (0 : Int) ≤ ((w.length - 1 : Nat) : Int) := Int.natCast_nonneg _
  have u0 : ((w.length - 1 : Nat) : Int).toNat = w.length - 1 := Int.toNat_natCast _
  have hlast : w[w.length - 1]? = w.getLast? := List.getLast?_eq_getElem?.symm
  obtain ⟨c, hc⟩ : ∃ c, w.getLast? = some c := by
    cases h : w.getLast? with
    | none => exact absurd (List.getLast?_eq_none_iff.1 h) h0
    | some c => exact ⟨c, rfl⟩
  rw [hc] at hlast
  have e104 : ((c.toNat : Int) == 104) = (c == 104) := u8eq c 104 (by decide)
  have e72 : ((c.toNat : Int) == 72) = (c == 72) := u8eq c 72 (by decide)
  have b1 := fun H => q_ref02_begins w 120 88 rfl hl H
  have b2 := fun H => q_ref02_begins w 98 66 rfl hl H
  have b3 := fun H => q_ref02_begins w 111 79 rfl hl H
  unfold baseF
  rw [hc]
  have s1 : ((some c == some (104 : UInt8)) : Bool) = (c == 104) := rfl
  have s2 : ((some c == some (72 : UInt8)) : Bool) = (c == 72) := rfl
  rw [s1, s2]
  simp only [pc_linotyperef02_base, sxA, sxB, Nat.reduceBEq, Nat.reduceEqDiff, reduceCtorEq, mxA, mxB, Nat.reduceAdd, reduceIte, Nat.reduceLeDiff, splice, Zdk, bl_mkS, Zbw, e1, t0, u0, hlast]
  refine (b1 H).thenW ?_
  rintro _ H1 _ hw1 ⟨rfl, rfl⟩
  cases hb1 : begF w 120 88 with
  | true =>
    simp only [sxA, sxB, Nat.reduceBEq, Nat.reduceEqDiff, reduceCtorEq, mxA, mxB, Nat.reduceAdd, reduceIte, Nat.reduceLeDiff, splice, Zdk, bl_mkS, ret_linotyperef02_base]
    exact .mk (Nat.le_refl _) ⟨rfl, rfl⟩
  | false =>
    simp only [pc_linotyperef02_base_3, sxA, sxB, Nat.reduceBEq, Nat.reduceEqDiff, reduceCtorEq, mxA, mxB, Nat.reduceAdd, reduceIte, Nat.reduceLeDiff, splice, e104, e72]
    cases h104 : c == 104 with
    | true =>
      simp only [sxA, sxB, Nat.reduceBEq, Nat.reduceEqDiff, reduceCtorEq, mxA, mxB, Nat.reduceAdd, reduceIte, Nat.reduceLeDiff, splice, Zdk, bl_mkS, e1, ret_linotyperef02_base]
      exact .mk (Nat.le_refl _) ⟨rfl, rfl⟩
    | false =>
     cases h72 : c == 72 with
     | true =>
      simp only [sxA, sxB, Nat.reduceBEq, Nat.reduceEqDiff, reduceCtorEq, mxA, mxB, Nat.reduceAdd, reduceIte, Nat.reduceLeDiff, splice, h72, e72, Zdk, bl_mkS, e1, ret_linotyperef02_base]
      exact .mk (Nat.le_refl _) ⟨rfl, rfl⟩
     | false =>
      simp only [sxA, sxB, Nat.reduceBEq, Nat.reduceEqDiff, reduceCtorEq, mxA, mxB, Nat.reduceAdd, reduceIte, Nat.reduceLeDiff, splice, e72, h72, Bool.or_self, pc_linotyperef02_base_2]
      refine (b2 H1).thenW ?_
      rintro _ H2 _ hw2 ⟨rfl, rfl⟩
      cases hb2 : begF w 98 66 with
      | true =>
        simp only [sxA, sxB, Nat.reduceBEq, Nat.reduceEqDiff, reduceCtorEq, mxA, mxB, Nat.reduceAdd, reduceIte, Nat.reduceLeDiff, splice, Zdk, bl_mkS, ret_linotyperef02_base]
        exact .mk (Nat.le_refl _) ⟨rfl, rfl⟩
      | false =>
        simp only [pc_linotyperef02_base_1, sxA, sxB, Nat.reduceBEq, Nat.reduceEqDiff, reduceCtorEq, mxA, mxB, Nat.reduceAdd, reduceIte, Nat.reduceLeDiff, splice]
        refine (b3 H2).thenW ?_
        rintro _ H3 _ hw3 ⟨rfl, rfl⟩
        cases hb3 : begF w 111 79 with
        | true =>
          simp only [sxA, sxB, Nat.reduceBEq, Nat.reduceEqDiff, reduceCtorEq, mxA, mxB, Nat.reduceAdd, reduceIte, Nat.reduceLeDiff, splice, Zdk, bl_mkS, ret_linotyperef02_base]
          exact .mk (Nat.le_refl _) ⟨rfl, rfl⟩
        | false =>
          simp only [sxA, sxB, Nat.reduceBEq, Nat.reduceEqDiff, reduceCtorEq, mxA, mxB, Nat.reduceAdd, reduceIte, Nat.reduceLeDiff, splice, Zdk, bl_mkS, ret_linotyperef02_base]
          exact .mk (Nat.le_refl _) ⟨rfl, rfl⟩
theorem baseF_ok {w : List UInt8} (h0 : w ≠ []) : (baseF w).2.1 ≤ (baseF w).2.2 ∧ (baseF w).2.2 ≤ w.length ∧ ((baseF w).1 = 2 ∨ (baseF w).1 = 8 ∨ (baseF w).1 = 10 ∨ (baseF w).1 = 16) := by
  have hlen : 0 < w.length := List.length_pos_iff.2 h0
  have hb : ∀ c d, begF w c d = true → 2 < w.length := fun c d h => by
    unfold begF at h
    split at h
    · simp
    · cases h
  unfold baseF
  cases h1 : begF w 120 88 with
  | true => have := hb _ _ h1; simp; omega
  | false =>
    cases h2 : (w.getLast? == some 104 || w.getLast? == some 72) with
    | true => simp
    | false =>
      cases h3 : begF w 98 66 with
      | true => have := hb _ _ h3; simp; omega
      | false =>
        cases h4 : begF w 111 79 with
        | true => have := hb _ _ h4; simp; omega
        | false => simp
theorem over_iff (acc of d : Nat) (ho : 2 ≤ of) (hd : d < 18446744073709551616) : (18446744073709551615 - d) / of < acc ↔ 18446744073709551616 ≤ acc * of + d := by
  rw [Nat.div_lt_iff_lt_mul (by omega)]
  omega
theorem q_ref02_number (w : List UInt8) (h0 : w ≠ []) (hl : w.length ≤ 1000000) (H : Heap) : CallQ prog f_linotyperef02_number [.string (mkS w)] H fun u H' => u = numV (numF w) ∧ Ext H H' := by
  refine in_linotyperef02_number fun hw => ?_
  obtain ⟨hft, htl, hof⟩ := baseF_ok h0
  simp only [pc_linotyperef02_number, sxA, sxB, Nat.reduceBEq, Nat.reduceEqDiff, reduceCtorEq, mxA, mxB, Nat.reduceAdd, reduceIte, Nat.reduceLeDiff, splice]
  refine (q_ref02_base w h0 hl _).thenW ?_
  rintro _ H1 _ hw1 ⟨rfl, h1⟩
  obtain ⟨e, h1⟩ : ∃ e, H1 = H.push (.cells [.int .i64 0, .int .i64 0] e false) := ⟨_, h1⟩
  have hx1 : Ext H H1 := by rw [h1]; exact (Ext.refl H).push _
  have hg1 : H1.get H.next = some (.cells [.int .i64 0, .int .i64 0] e false) := by rw [h1, Heap.get_push, if_pos rfl]
  clear h1
  unfold numF
  generalize baseF w = bb at *
  obtain ⟨of, fr, to⟩ := bb
  simp only [sxA, sxB, Nat.reduceBEq, Nat.reduceEqDiff, reduceCtorEq, mxA, mxB, Nat.reduceAdd, reduceIte, Nat.reduceLeDiff, splice] at hft htl hof ⊢
  generalize hR : digsG of ((w.take to).drop fr) true fr 0 = R
  have done : ∀ c, Ext H (H1.set H.next (.cells c e false)) := fun c => hx1.set (Nat.le_refl _) _
  have hnn := hx1.next
  refine loop_intro (fun m A' H' => ∃ (i n acc : Nat) (prev ov : Bool), m = to - i ∧ H' = H1 ∧ fr ≤ i ∧ i ≤ to ∧ digsG of ((w.take to).drop i) prev i acc = R ∧ prev = (decide (i = fr) || (w[i - 1]? == some 95)) ∧ ov = decide (18446744073709551616 ≤ acc) ∧ n < 18446744073709551616 ∧ (ov = false → n = acc) ∧ A' 0 = .string (mkS w) ∧ A' 3 = .pointer (some ⟨H.next, 0, none⟩) ∧ A' 4 = .int .i64 of ∧ A' 5 = .int .i64 fr ∧ A' 6 = .int .i64 to ∧ A' 7 = .int .u64 n ∧ A' 8 = .bool ov ∧ A' 9 = .int .i64 i) (to - fr) ?_ ?_
  · refine ⟨fr, 0, 0, true, false, rfl, rfl, Nat.le_refl _, hft, hR, by simp, by simp, by omega, fun _ => rfl, ?_, ?_, ?_, ?_, ?_, ?_, ?_, ?_⟩
    all_goals simp only [uxA, uxB, Nat.reduceBEq]
    all_goals rfl
  · rintro m A' H' ⟨i, n, acc, prev, ov, rfl, hEq, hfi, hit, hdg, hpv, hov, hn, hna, r0, r3, r4, r5, r6, r7, r8, r9⟩
    subst hEq
    by_cases hi : i < to
    · have e1 : decide ((i : Int) < (to : Int)) = true := decide_eq_true (by omega)
      have hiw : i < w.length := by omega
      have hp := List.getElem?_eq_getElem hiw
      have t0 : (0 : Int) ≤ (i : Int) := Int.natCast_nonneg _
      have u0 : (i : Int).toNat = i := Int.toNat_natCast _
      have hds : (w.take to).drop i = w[i] :: (w.take to).drop (i + 1) := by
        rw [List.drop_eq_getElem_cons (by rw [List.length_take]; omega), List.getElem_take]
      have hem : ((w.take to).drop (i + 1)).isEmpty = decide (i + 1 = to) := by
        rw [Bool.eq_iff_iff, List.isEmpty_iff, List.drop_eq_nil_iff, List.length_take, decide_eq_true_eq]; omega
      rw [hds] at hdg
      have hpn : w[i + 1 - 1]? = some w[i] := hp
      generalize w[i] = c at *
      have e95 : ((c.toNat : Int) == 95) = (c == 95) := u8eq c 95 (by decide)
      have ei : IntKind.i64.wrap ((i : Int) + 1) = ((i + 1 : Nat) : Int) := by rw [w64 (by unfold I64; omega)]; rfl
      simp only [pc_linotyperef02_number_7, pc_linotyperef02_number_6, sxA, sxB, Nat.reduceBEq, Nat.reduceEqDiff, reduceCtorEq, mxA, mxB, Nat.reduceAdd, reduceIte, Nat.reduceLeDiff, splice, r0, r3, r4, r5, r6, r7, r8, r9, e1, Zbw, bl_mkS, t0, u0, hp, e95]
      rw [digsG, hem] at hdg
      cases hc : c == 95 with
      | true =>
        rw [hc, cond_true] at hdg
        have f1 : ((i : Int) == (fr : Int)) = decide (i = fr) := by rw [Bool.eq_iff_iff, beq_iff_eq, decide_eq_true_eq]; omega
        have f2 : ((i : Int) == IntKind.i64.wrap ((to : Int) - 1)) = decide (i + 1 = to) := by rw [w64 (by unfold I64; omega), Bool.eq_iff_iff, beq_iff_eq, decide_eq_true_eq]; omega
        simp only [pc_linotyperef02_number_5, sxA, sxB, Nat.reduceBEq, Nat.reduceEqDiff, reduceCtorEq, mxA, mxB, Nat.reduceAdd, reduceIte, Nat.reduceLeDiff, splice, r0, r5, r6, r9, f1, f2]
        have bad : ∀ A2 : Env, A2 9 = .int .i64 (i : Int) → A2 3 = .pointer (some ⟨H.next, 0, none⟩) → R = .inl i → True := fun _ _ _ _ => trivial
        cases hf : decide (i = fr) with
        | true =>
          rw [hf, Bool.true_or] at hpv
          rw [hpv, Bool.true_or, cond_true] at hdg
          simp only [sxA, sxB, Nat.reduceBEq, Nat.reduceEqDiff, reduceCtorEq, mxA, mxB, Nat.reduceAdd, reduceIte, Nat.reduceLeDiff, splice, r0, r3, r4, r5, r6, r7, r8, r9, hg1, ret_linotyperef02_number]
          rw [← hdg]
          exact .mk (by rw [Heap.next_set]; omega) ⟨rfl, done _⟩
        | false =>
          cases ht : decide (i + 1 = to) with
          | true =>
            rw [ht, Bool.or_true, cond_true] at hdg
            simp only [sxA, sxB, Nat.reduceBEq, Nat.reduceEqDiff, reduceCtorEq, mxA, mxB, Nat.reduceAdd, reduceIte, Nat.reduceLeDiff, splice, r0, r3, r4, r5, r6, r7, r8, r9, f2, ht, hg1, ret_linotyperef02_number]
            rw [← hdg]
            exact .mk (by rw [Heap.next_set]; omega) ⟨rfl, done _⟩
          | false =>
            have hfi2 : fr < i := by have := of_decide_eq_false hf; omega
            have hp2 := List.getElem?_eq_getElem (show i - 1 < w.length by omega)
            have ei2 : IntKind.i64.wrap ((i : Int) - 1) = ((i - 1 : Nat) : Int) := by rw [w64 (by unfold I64; omega)]; omega
            have t2 : (0 : Int) ≤ ((i - 1 : Nat) : Int) := Int.natCast_nonneg _
            have u2 : ((i - 1 : Nat) : Int).toNat = i - 1 := Int.toNat_natCast _
            rw [hf, Bool.false_or, hp2] at hpv
            generalize w[i - 1] = c2 at *
            have f95 : ((c2.toNat : Int) == 95) = (c2 == 95) := u8eq c2 95 (by decide)
            have hpv : prev = (c2 == 95) := hpv
            rw [← hpv] at f95
            simp only [sxA, sxB, Nat.reduceBEq, Nat.reduceEqDiff, reduceCtorEq, mxA, mxB, Nat.reduceAdd, reduceIte, Nat.reduceLeDiff, splice, r0, r3, r4, r5, r6, r7, r8, r9, f2, ht, ei2, Zbw, bl_mkS, t2, u2, hp2, f95]
            cases hpr : prev with
            | true =>
              rw [hpr, Bool.true_or, cond_true] at hdg
              simp only [sxA, sxB, Nat.reduceBEq, Nat.reduceEqDiff, reduceCtorEq, mxA, mxB, Nat.reduceAdd, reduceIte, Nat.reduceLeDiff, splice, r0, r3, r4, r5, r6, r7, r8, r9, hg1, ret_linotyperef02_number]
              rw [← hdg]
              exact .mk (by rw [Heap.next_set]; omega) ⟨rfl, done _⟩
            | false =>
              rw [hpr, ht, Bool.or_false, cond_false] at hdg
              simp only [sxA, sxB, Nat.reduceBEq, Nat.reduceEqDiff, reduceCtorEq, mxA, mxB, Nat.reduceAdd, reduceIte, Nat.reduceLeDiff, splice, r0, r3, r4, r5, r6, r7, r8, r9, ei]
              have hne : ¬ i + 1 = to := of_decide_eq_false ht
              refine ⟨to - (i + 1), by omega, i + 1, n, acc, true, ov, rfl, rfl, by omega, by omega, hdg, ?_, hov, hn, hna, ?_, ?_, ?_, ?_, ?_, ?_, ?_, ?_⟩
              · rw [hpn, beq_iff_eq.1 hc]
                simp
              all_goals simp only [uxA, uxB, Nat.reduceBEq, r0, r3, r4, r5, r6, r7, r8, r9]
      | false =>
        rw [hc, cond_false] at hdg
        simp only [pc_linotyperef02_number_4, sxA, sxB, Nat.reduceBEq, Nat.reduceEqDiff, reduceCtorEq, mxA, mxB, Nat.reduceAdd, reduceIte, Nat.reduceLeDiff, splice, r0, r9, Zbw, bl_mkS, t0, u0, hp]
        refine (q_ref02_digit c.toNat c.toNat_lt H').thenW ?_
        rintro _ H2 _ hw2 ⟨rfl, rfl⟩
        by_cases hd : digF c.toNat < of
        · have e2 : decide ((of : Int) ≤ ((digF c.toNat : Nat) : Int)) = false := decide_eq_false (by omega)
          have hb : Nat.blt (digF c.toNat) of = true := by simpa using hd
          rw [hb, cond_true] at hdg
          simp only [sxA, sxB, Nat.reduceBEq, Nat.reduceEqDiff, reduceCtorEq, mxA, mxB, Nat.reduceAdd, reduceIte, Nat.reduceLeDiff, splice, r0, r3, r4, r5, r6, r7, r8, r9, e2, pc_linotyperef02_number_3]
          generalize hdd : digF c.toNat = d at *
          have w1 : IntKind.u64.wrap (d : Int) = (d : Int) := w64u (by omega) (by omega)
          have w2 : IntKind.u64.wrap (of : Int) = (of : Int) := w64u (by omega) (by omega)
          have w3 : IntKind.u64.wrap (18446744073709551615 - (d : Int)) = ((18446744073709551615 - d : Nat) : Int) := by rw [w64u (by omega) (by omega)]; omega
          have w4 : IntKind.u64.wrap ((((18446744073709551615 - d : Nat) : Int)).tdiv (of : Int)) = (((18446744073709551615 - d) / of : Nat) : Int) := by
            have h1 : (((18446744073709551615 - d : Nat) : Int)).tdiv (of : Int) = (((18446744073709551615 - d) / of : Nat) : Int) := rfl
            have h2 := Nat.div_le_self (18446744073709551615 - d) of
            rw [h1]
            exact w64u (Int.natCast_nonneg _) (by omega)
          have w5 : ∃ n' : Nat, n' < 18446744073709551616 ∧ n' = (n * of + d) % 18446744073709551616 ∧ IntKind.u64.wrap (IntKind.u64.wrap ((n : Int) * (of : Int)) + (d : Int)) = (n' : Int) := by
            refine ⟨(n * of + d) % 18446744073709551616, Nat.mod_lt _ (by decide), rfl, ?_⟩
            rw [IntKind.wrap_u64, IntKind.wrap_u64]
            have h1 : (n : Int) * (of : Int) = ((n * of : Nat) : Int) := by simp
            rw [h1]
            omega
          obtain ⟨n', hn1, hn2, hn3⟩ := w5
          have ho0 : ¬ ((of : Int) = 0) := by omega
          have hmono : 18446744073709551616 ≤ acc → 18446744073709551616 ≤ acc * of + d := fun h => by
            have h1 : acc * 1 ≤ acc * of := Nat.mul_le_mul_left _ (by omega)
            omega
          cases hv : ov with
          | true =>
            rw [hv] at hov
            have hacc : 18446744073709551616 ≤ acc := of_decide_eq_true hov.symm
            simp only [sxA, sxB, Nat.reduceBEq, Nat.reduceEqDiff, reduceCtorEq, mxA, mxB, Nat.reduceAdd, reduceIte, Nat.reduceLeDiff, splice, r0, r3, r4, r5, r6, r7, r8, r9, w1, w2, hn3, ei]
            refine ⟨to - (i + 1), by omega, i + 1, n', acc * of + d, false, true, rfl, rfl, by omega, by omega, hdg, ?_, (decide_eq_true (hmono hacc)).symm, hn1, (fun h => nomatch h), ?_, ?_, ?_, ?_, ?_, ?_, ?_, ?_⟩
            · rw [hpn]
              have : ¬ i + 1 = fr := by omega
              have h3 : (some c == some (95 : UInt8)) = (c == 95) := rfl
              rw [h3, hc, decide_eq_false this]; rfl
            all_goals simp only [uxA, uxB, Nat.reduceBEq, r0, r3, r4, r5, r6, r7, r8, r9]
          | false =>
            have hna' := hna hv
            subst hna'
            have hov2 : decide ((((18446744073709551615 - d) / of : Nat) : Int) < (n : Int)) = decide (18446744073709551616 ≤ n * of + d) := by
              rw [Bool.eq_iff_iff, decide_eq_true_eq, decide_eq_true_eq, Int.ofNat_lt]
              exact over_iff n of d (by omega) (by omega)
            simp only [sxA, sxB, Nat.reduceBEq, Nat.reduceEqDiff, reduceCtorEq, mxA, mxB, Nat.reduceAdd, reduceIte, Nat.reduceLeDiff, splice, r0, r3, r4, r5, r6, r7, r8, r9, w1, w2, w3, w4, ho0, hov2, hn3, ei]
            refine ⟨to - (i + 1), by omega, i + 1, n', n * of + d, false, decide (18446744073709551616 ≤ n * of + d), rfl, rfl, by omega, by omega, hdg, ?_, rfl, hn1, fun h => ?_, ?_, ?_, ?_, ?_, ?_, ?_, ?_, ?_⟩
            · rw [hpn]
              have : ¬ i + 1 = fr := by omega
              have h3 : (some c == some (95 : UInt8)) = (c == 95) := rfl
              rw [h3, hc, decide_eq_false this]; rfl
            · have := of_decide_eq_false h
              rw [hn2, Nat.mod_eq_of_lt (by omega)]
            all_goals simp only [uxA, uxB, Nat.reduceBEq, r0, r3, r4, r5, r6, r7, r8, r9]
        · have e2 : decide ((of : Int) ≤ ((digF c.toNat : Nat) : Int)) = true := decide_eq_true (by omega)
          have hb : Nat.blt (digF c.toNat) of = false := by rw [blt_dec]; exact decide_eq_false hd
          rw [hb, cond_false] at hdg
          simp only [sxA, sxB, Nat.reduceBEq, Nat.reduceEqDiff, reduceCtorEq, mxA, mxB, Nat.reduceAdd, reduceIte, Nat.reduceLeDiff, splice, r0, r3, r4, r5, r6, r7, r8, r9, e2, hg1, ret_linotyperef02_number]
          rw [← hdg]
          exact .mk (by rw [Heap.next_set]; omega) ⟨rfl, done _⟩
    · have e1 : decide ((i : Int) < (to : Int)) = false := decide_eq_false (by omega)
      have hit2 : i = to := by omega
      subst hit2
      have hnil : (w.take i).drop i = [] := by rw [List.drop_eq_nil_iff, List.length_take]; omega
      rw [hnil, digsG] at hdg
      have hem : ((w.take i).drop fr).isEmpty = decide (fr = i) := by
        rw [Bool.eq_iff_iff, List.isEmpty_iff, List.drop_eq_nil_iff, List.length_take, decide_eq_true_eq]; omega
      rw [← hdg]
      simp only [hem]
      have f1 : ((fr : Int) == (i : Int)) = decide (fr = i) := by rw [Bool.eq_iff_iff, beq_iff_eq, decide_eq_true_eq]; omega
      simp only [pc_linotyperef02_number_7, sxA, sxB, Nat.reduceBEq, Nat.reduceEqDiff, reduceCtorEq, mxA, mxB, Nat.reduceAdd, reduceIte, Nat.reduceLeDiff, splice, r0, r3, r4, r5, r6, r7, r8, r9, e1, pc_linotyperef02_number_2, f1]
      cases hfe : decide (fr = i) with
      | true =>
        simp only [sxA, sxB, Nat.reduceBEq, Nat.reduceEqDiff, reduceCtorEq, mxA, mxB, Nat.reduceAdd, reduceIte, Nat.reduceLeDiff, splice, r0, r3, r4, r5, r6, r7, r8, r9, hg1, ret_linotyperef02_number]
        exact .mk (by rw [Heap.next_set]; omega) ⟨rfl, done _⟩
      | false =>
        simp only [sxA, sxB, Nat.reduceBEq, Nat.reduceEqDiff, reduceCtorEq, mxA, mxB, Nat.reduceAdd, reduceIte, Nat.reduceLeDiff, splice, r0, r3, r4, r5, r6, r7, r8, r9, hg1, pc_linotyperef02_number_1]
        cases hv : ov with
        | true =>
          rw [hv] at hov
          have hacc : 18446744073709551616 ≤ acc := of_decide_eq_true hov.symm
          have hb : Nat.ble 18446744073709551616 acc = true := by simpa using hacc
          simp only [sxA, sxB, Nat.reduceBEq, Nat.reduceEqDiff, reduceCtorEq, mxA, mxB, Nat.reduceAdd, reduceIte, Nat.reduceLeDiff, splice, r0, r3, r4, r5, r6, r7, r8, r9, hg1, ret_linotyperef02_number, hb]
          exact .mk (by rw [Heap.next_set]; omega) ⟨rfl, done _⟩
        | false =>
          rw [hv] at hov
          have hacc : ¬ 18446744073709551616 ≤ acc := of_decide_eq_false hov.symm
          have hb : Nat.ble 18446744073709551616 acc = false := by cases h : Nat.ble 18446744073709551616 acc with | false => rfl | true => exact absurd (Nat.le_of_ble_eq_true h) hacc
          simp only [sxA, sxB, Nat.reduceBEq, Nat.reduceEqDiff, reduceCtorEq, mxA, mxB, Nat.reduceAdd, reduceIte, Nat.reduceLeDiff, splice, r0, r3, r4, r5, r6, r7, r8, r9, hg1, ret_linotyperef02_number, hb]
          exact .mk (by rw [Heap.next_set]; omega) ⟨by rw [hna hv]; rfl, done _⟩
end Go.Proofs.YthoanamkoigjeaaGreatDoor.code
/- Names: token.Name and the document's. -/
set_option linter.unusedVariables false
set_option linter.unusedSimpArgs false
set_option maxRecDepth 100000
set_option maxHeartbeats 4000000
namespace Go.Proofs.YthoanamkoigjeaaGreatDoor.code
open Go.Ab

def firstF (c : Int) : Bool := (decide (97 ≤ c) && decide (c ≤ 122)) || (decide (65 ≤ c) && decide (c ≤ 90)) || (c == 95) || (c == 46)
def moreF (c : Int) : Bool := firstF c || (decide (48 ≤ c) && decide (c ≤ 57))
theorem q_token_isFirst (c : Int) (H : Heap) : CallQ prog f_token_isFirst [.int .u8 c] H fun u H' => u = .bool (firstF c) ∧ H' = H := by
  refine in_token_isFirst fun hw => ?_
  have e : firstF c = ((decide (97 ≤ c) && decide (c ≤ 122)) || (decide (65 ≤ c) && decide (c ≤ 90)) || (c == 95) || (c == 46)) := rfl
  rw [e]
  simp only [pc_token_isFirst, sxA, sxB, Nat.reduceBEq, Nat.reduceEqDiff, reduceCtorEq, mxA, mxB, Nat.reduceAdd, reduceIte, Nat.reduceLeDiff, splice, ret_token_isFirst]
  cases h1 : decide (97 ≤ c) <;> cases h2 : decide (c ≤ 122) <;> cases h3 : decide (65 ≤ c) <;> cases h4 : decide (c ≤ 90) <;> cases h5 : c == 95 <;> cases h6 : c == 46 <;> simp only [sxA, sxB, Nat.reduceBEq, Nat.reduceEqDiff, reduceCtorEq, mxA, mxB, Nat.reduceAdd, reduceIte, Nat.reduceLeDiff, splice, h1, h2, h3, h4, h5, h6, ret_token_isFirst] <;> exact .mk (Nat.le_refl _) ⟨rfl, rfl⟩
theorem q_ref22_first (c : Int) (H : Heap) : CallQ prog f_linotyperef22_first [.int .u8 c] H fun u H' => u = .bool (firstF c) ∧ H' = H := by
  refine in_linotyperef22_first fun hw => ?_
  have e : firstF c = ((decide (97 ≤ c) && decide (c ≤ 122)) || (decide (65 ≤ c) && decide (c ≤ 90)) || (c == 95) || (c == 46)) := rfl
  rw [e]
  simp only [pc_linotyperef22_first, sxA, sxB, Nat.reduceBEq, Nat.reduceEqDiff, reduceCtorEq, mxA, mxB, Nat.reduceAdd, reduceIte, Nat.reduceLeDiff, splice, ret_linotyperef22_first]
  cases h1 : decide (97 ≤ c) <;> cases h2 : decide (c ≤ 122) <;> cases h3 : decide (65 ≤ c) <;> cases h4 : decide (c ≤ 90) <;> cases h5 : c == 95 <;> cases h6 : c == 46 <;> simp only [sxA, sxB, Nat.reduceBEq, Nat.reduceEqDiff, reduceCtorEq, mxA, mxB, Nat.reduceAdd, reduceIte, Nat.reduceLeDiff, splice, ge_iff_le, h1, h2, h3, h4, h5, h6, ret_linotyperef22_first] <;> exact .mk (Nat.le_refl _) ⟨rfl, rfl⟩
theorem q_token_isMore (c : Int) (H : Heap) : CallQ prog f_token_isMore [.int .u8 c] H fun u H' => u = .bool (moreF c) ∧ H' = H := by
  refine in_token_isMore fun hw => ?_
  have e : moreF c = (firstF c || (decide (48 ≤ c) && decide (c ≤ 57))) := rfl
  rw [e]
  simp only [pc_token_isMore, sxA, sxB, Nat.reduceBEq, Nat.reduceEqDiff, reduceCtorEq, mxA, mxB, Nat.reduceAdd, reduceIte, Nat.reduceLeDiff, splice]
  refine (q_token_isFirst c H).thenW ?_
  rintro _ H _ hw ⟨rfl, rfl⟩
  simp only [sxA, sxB, Nat.reduceBEq, Nat.reduceEqDiff, reduceCtorEq, mxA, mxB, Nat.reduceAdd, reduceIte, Nat.reduceLeDiff, splice, ret_token_isMore]
  cases h0 : firstF c <;> cases h1 : decide (48 ≤ c) <;> cases h2 : decide (c ≤ 57) <;> simp only [sxA, sxB, Nat.reduceBEq, Nat.reduceEqDiff, reduceCtorEq, mxA, mxB, Nat.reduceAdd, reduceIte, Nat.reduceLeDiff, splice, h0, h1, h2, ret_token_isMore] <;> exact .mk (Nat.le_refl _) ⟨rfl, rfl⟩
theorem q_ref22_more (c : Int) (H : Heap) : CallQ prog f_linotyperef22_more [.int .u8 c] H fun u H' => u = .bool (moreF c) ∧ H' = H := by
  refine in_linotyperef22_more fun hw => ?_
  have e : moreF c = (firstF c || (decide (48 ≤ c) && decide (c ≤ 57))) := rfl
  rw [e]
  simp only [pc_linotyperef22_more, sxA, sxB, Nat.reduceBEq, Nat.reduceEqDiff, reduceCtorEq, mxA, mxB, Nat.reduceAdd, reduceIte, Nat.reduceLeDiff, splice]
  refine (q_ref22_first c H).thenW ?_
  rintro _ H _ hw ⟨rfl, rfl⟩
  simp only [sxA, sxB, Nat.reduceBEq, Nat.reduceEqDiff, reduceCtorEq, mxA, mxB, Nat.reduceAdd, reduceIte, Nat.reduceLeDiff, splice, ret_linotyperef22_more]
  cases h0 : firstF c <;> cases h1 : decide (48 ≤ c) <;> cases h2 : decide (c ≤ 57) <;> simp only [sxA, sxB, Nat.reduceBEq, Nat.reduceEqDiff, reduceCtorEq, mxA, mxB, Nat.reduceAdd, reduceIte, Nat.reduceLeDiff, splice, ge_iff_le, h0, h1, h2, ret_linotyperef22_more] <;> exact .mk (Nat.le_refl _) ⟨rfl, rfl⟩
def nameF : List UInt8 → Bool
  | [] => false
  | b :: l => decide (l.length < 60) && firstF b.toNat && l.all fun b => moreF b.toNat
theorem first_more {c : Int} (h : firstF c = true) : moreF c = true := by unfold moreF; rw [h]; rfl
theorem take_all {l : List UInt8} {i : Nat} {b : UInt8} (h : l[i]? = some b) : ((l.take (i + 1)).all fun b => moreF b.toNat) = (((l.take i).all fun b => moreF b.toNat) && moreF b.toNat) := by
  rw [List.take_add_one, h]
  simp
theorem not_all {l : List UInt8} {i : Nat} {b : UInt8} (h : l[i]? = some b) (hb : moreF b.toNat = false) : (l.all fun b => moreF b.toNat) = false := by
  cases ha : l.all fun b => moreF b.toNat with
  | false => rfl
  | true =>
    have := List.all_eq_true.1 ha b (List.mem_of_getElem? h)
    rw [hb] at this
    cases this
theorem q_token_Name (s : ByteArray) (hl : (bl s).length ≤ 1000000) (H : Heap) : CallQ prog f_token_Name [.string s] H fun u H' => u = .bool (nameF (bl s)) ∧ H' = H := by
  refine in_token_Name fun hw => ?_
  generalize hbl : bl s = l at *
  simp only [pc_token_Name, pc_token_Name_1, pc_token_Name_2, pc_token_Name_3, sxA, sxB, Nat.reduceBEq, Nat.reduceEqDiff, reduceCtorEq, mxA, mxB, Nat.reduceAdd, reduceIte, Nat.reduceLeDiff, splice, Zdk, hbl]
  cases hc : l with
  | nil =>
    subst hc
    have z : (((0 : Nat) : Int) == 0) = true := rfl
    simp only [sxA, sxB, Nat.reduceBEq, Nat.reduceEqDiff, reduceCtorEq, mxA, mxB, Nat.reduceAdd, reduceIte, Nat.reduceLeDiff, splice, z, ret_token_Name]
    exact .mk (Nat.le_refl _) ⟨rfl, rfl⟩
  | cons b0 l0 =>
    rw [← hc]
    have hn : l.length = l0.length + 1 := by rw [hc]; rfl
    have z : ((l.length : Int) == 0) = false := by rw [hn]; exact beq_eq_false_iff_ne.2 (by omega)
    have h0 : l[0]? = some b0 := by rw [hc]; rfl
    have eN : nameF l = (decide (l0.length < 60) && firstF b0.toNat && l0.all fun b => moreF b.toNat) := by rw [hc]; rfl
    rw [eN]
    simp only [sxA, sxB, Nat.reduceBEq, Nat.reduceEqDiff, reduceCtorEq, mxA, mxB, Nat.reduceAdd, reduceIte, Nat.reduceLeDiff, splice, Zdk, Zbw, hbl, z, h0]
    by_cases h60 : (60 : Int) < l.length
    · have e60 : decide ((60 : Int) < l.length) = true := decide_eq_true h60
      have e61 : decide (l0.length < 60) = false := decide_eq_false (by omega)
      simp only [sxA, sxB, Nat.reduceBEq, Nat.reduceEqDiff, reduceCtorEq, mxA, mxB, Nat.reduceAdd, reduceIte, Nat.reduceLeDiff, splice, e60, ret_token_Name]
      exact .mk (Nat.le_refl _) ⟨by rw [e61]; rfl, rfl⟩
    · have e60 : decide ((60 : Int) < l.length) = false := decide_eq_false h60
      have e61 : decide (l0.length < 60) = true := decide_eq_true (by omega)
      have t0 : (0 : Int) ≤ 0 := Int.le_refl 0
      have t00 : (0 : Int).toNat = 0 := rfl
      rw [e61, Bool.true_and]
      simp only [sxA, sxB, Nat.reduceBEq, Nat.reduceEqDiff, reduceCtorEq, mxA, mxB, Nat.reduceAdd, reduceIte, Nat.reduceLeDiff, splice, Zbw, hbl, e60, t0, t00, h0, true_and]
      refine (q_token_isFirst b0.toNat H).thenW ?_
      rintro _ H _ hw ⟨rfl, rfl⟩
      cases hf : firstF b0.toNat with
      | false =>
        simp only [sxA, sxB, Nat.reduceBEq, Nat.reduceEqDiff, reduceCtorEq, mxA, mxB, Nat.reduceAdd, reduceIte, Nat.reduceLeDiff, splice, ret_token_Name]
        exact .mk (Nat.le_refl _) ⟨rfl, rfl⟩
      | true =>
        have hm0 := first_more hf
        have eA : (l0.all fun b => moreF b.toNat) = l.all fun b => moreF b.toNat := by rw [hc, List.all_cons, hm0, Bool.true_and]
        rw [Bool.true_and, eA]
        simp only [sxA, sxB, Nat.reduceBEq, Nat.reduceEqDiff, reduceCtorEq, mxA, mxB, Nat.reduceAdd, reduceIte, Nat.reduceLeDiff, splice, Zdk, hbl]
        refine loop_intro (fun m A' H' => ∃ i : Nat, i ≤ l.length ∧ m = l.length - i ∧ H' = H ∧ ((l.take i).all fun b => moreF b.toNat) = true ∧ A' 0 = .string s ∧ A' 19 = .int .i64 l.length ∧ A' 20 = .int .i64 i) l.length ?_ ?_
        · refine ⟨0, Nat.zero_le _, by omega, rfl, rfl, ?_, ?_, ?_⟩
          all_goals simp only [uxA, uxB, Nat.reduceBEq]
          all_goals rfl
        · rintro m A' H' ⟨i, hi, rfl, hEq, hall, r0, r19, r20⟩
          subst hEq
          simp only [sxA, sxB, Nat.reduceBEq, Nat.reduceEqDiff, reduceCtorEq, mxA, mxB, Nat.reduceAdd, reduceIte, Nat.reduceLeDiff, splice, r19, r20]
          refine cB_cases (fun h2 => ?_) (fun h2 => ?_)
          · have h2 : i < l.length := by have := of_decide_eq_true h2; omega
            have hp := List.getElem?_eq_getElem h2
            have c1 : (0 : Int) ≤ i := by omega
            have c3 : (i : Int).toNat = i := by omega
            have ei : IntKind.i64.wrap ((i : Int) + 1) = ((i + 1 : Nat) : Int) := by rw [w64 (by unfold I64; omega)]; omega
            have ht := take_all hp
            have hno := not_all hp
            generalize l[i] = b at *
            simp only [sxA, sxB, Nat.reduceBEq, Nat.reduceEqDiff, reduceCtorEq, mxA, mxB, Nat.reduceAdd, reduceIte, Nat.reduceLeDiff, splice, r0, r20, Zbw, hbl, c1, c3, hp, true_and]
            refine (q_token_isMore b.toNat H').thenW ?_
            rintro _ H2 _ hw2 ⟨rfl, rfl⟩
            cases hmb : moreF b.toNat with
            | false =>
              simp only [sxA, sxB, Nat.reduceBEq, Nat.reduceEqDiff, reduceCtorEq, mxA, mxB, Nat.reduceAdd, reduceIte, Nat.reduceLeDiff, splice, ret_token_Name]
              exact .mk (Nat.le_refl _) ⟨by rw [hno hmb], rfl⟩
            | true =>
              simp only [sxA, sxB, Nat.reduceBEq, Nat.reduceEqDiff, reduceCtorEq, mxA, mxB, Nat.reduceAdd, reduceIte, Nat.reduceLeDiff, splice, r20, ei]
              refine ⟨l.length - (i + 1), by omega, i + 1, by omega, rfl, rfl, by rw [ht, hall, hmb]; rfl, ?_, ?_, ?_⟩
              all_goals simp only [uxA, uxB, Nat.reduceBEq, r0, r19]
          · have h2 : i = l.length := by have := of_decide_eq_false h2; omega
            subst h2
            rw [List.take_length] at hall
            simp only [sxA, sxB, Nat.reduceBEq, Nat.reduceEqDiff, reduceCtorEq, mxA, mxB, Nat.reduceAdd, reduceIte, Nat.reduceLeDiff, splice, ret_token_Name]
            exact .mk (Nat.le_refl _) ⟨by rw [hall], rfl⟩
theorem q_ref22_Name (s : ByteArray) (hl : (bl s).length ≤ 1000000) (H : Heap) : CallQ prog f_linotyperef22_Name [.string s] H fun u H' => u = .bool (nameF (bl s)) ∧ H' = H := by
  refine in_linotyperef22_Name fun hw => ?_
  generalize hbl : bl s = l at *
  simp only [pc_linotyperef22_Name, pc_linotyperef22_Name_1, pc_linotyperef22_Name_2, pc_linotyperef22_Name_3, sxA, sxB, Nat.reduceBEq, Nat.reduceEqDiff, reduceCtorEq, mxA, mxB, Nat.reduceAdd, reduceIte, Nat.reduceLeDiff, splice, Zdk, hbl]
  cases hc : l with
  | nil =>
    subst hc
    have z : decide (((0 : Nat) : Int) < 1) = true := rfl
    simp only [sxA, sxB, Nat.reduceBEq, Nat.reduceEqDiff, reduceCtorEq, mxA, mxB, Nat.reduceAdd, reduceIte, Nat.reduceLeDiff, splice, z, ret_linotyperef22_Name]
    exact .mk (Nat.le_refl _) ⟨rfl, rfl⟩
  | cons b0 l0 =>
    rw [← hc]
    have hn : l.length = l0.length + 1 := by rw [hc]; rfl
    have z : decide ((l.length : Int) < 1) = false := decide_eq_false (by omega)
    have h0 : l[0]? = some b0 := by rw [hc]; rfl
    have eN : nameF l = (decide (l0.length < 60) && firstF b0.toNat && l0.all fun b => moreF b.toNat) := by rw [hc]; rfl
    rw [eN]
    simp only [sxA, sxB, Nat.reduceBEq, Nat.reduceEqDiff, reduceCtorEq, mxA, mxB, Nat.reduceAdd, reduceIte, Nat.reduceLeDiff, splice, Zdk, Zbw, hbl, z, h0]
    by_cases h60 : (60 : Int) < l.length
    · have e60 : decide ((60 : Int) < l.length) = true := decide_eq_true h60
      have e61 : decide (l0.length < 60) = false := decide_eq_false (by omega)
      simp only [sxA, sxB, Nat.reduceBEq, Nat.reduceEqDiff, reduceCtorEq, mxA, mxB, Nat.reduceAdd, reduceIte, Nat.reduceLeDiff, splice, e60, ret_linotyperef22_Name]
      exact .mk (Nat.le_refl _) ⟨by rw [e61]; rfl, rfl⟩
    · have e60 : decide ((60 : Int) < l.length) = false := decide_eq_false h60
      have e61 : decide (l0.length < 60) = true := decide_eq_true (by omega)
      have t0 : (0 : Int) ≤ 0 := Int.le_refl 0
      have t00 : (0 : Int).toNat = 0 := rfl
      rw [e61, Bool.true_and]
      simp only [sxA, sxB, Nat.reduceBEq, Nat.reduceEqDiff, reduceCtorEq, mxA, mxB, Nat.reduceAdd, reduceIte, Nat.reduceLeDiff, splice, Zbw, hbl, e60, t0, t00, h0, true_and]
      refine (q_ref22_first b0.toNat H).thenW ?_
      rintro _ H _ hw ⟨rfl, rfl⟩
      cases hf : firstF b0.toNat with
      | false =>
        simp only [sxA, sxB, Nat.reduceBEq, Nat.reduceEqDiff, reduceCtorEq, mxA, mxB, Nat.reduceAdd, reduceIte, Nat.reduceLeDiff, splice, ret_linotyperef22_Name]
        exact .mk (Nat.le_refl _) ⟨rfl, rfl⟩
      | true =>
        have hm0 := first_more hf
        have eA : (l0.all fun b => moreF b.toNat) = l.all fun b => moreF b.toNat := by rw [hc, List.all_cons, hm0, Bool.true_and]
        rw [Bool.true_and, eA]
        simp only [sxA, sxB, Nat.reduceBEq, Nat.reduceEqDiff, reduceCtorEq, mxA, mxB, Nat.reduceAdd, reduceIte, Nat.reduceLeDiff, splice]
        refine loop_intro (fun m A' H' => ∃ i : Nat, i ≤ l.length ∧ m = l.length - i ∧ H' = H ∧ ((l.take i).all fun b => moreF b.toNat) = true ∧ A' 0 = .string s ∧ A' 3 = .int .i64 i) (l.length - 1) ?_ ?_
        · refine ⟨1, by omega, by omega, rfl, ?_, ?_, ?_⟩
          · rw [hc]; simp [hm0]
          all_goals simp only [uxA, uxB, Nat.reduceBEq]
          all_goals rfl
        · rintro m A' H' ⟨i, hi, rfl, hEq, hall, r0, r3⟩
          subst hEq
          simp only [sxA, sxB, Nat.reduceBEq, Nat.reduceEqDiff, reduceCtorEq, mxA, mxB, Nat.reduceAdd, reduceIte, Nat.reduceLeDiff, splice, r0, r3, Zdk, hbl]
          refine cB_cases (fun h2 => ?_) (fun h2 => ?_)
          · have h2 : i < l.length := by have := of_decide_eq_true h2; omega
            have hp := List.getElem?_eq_getElem h2
            have c1 : (0 : Int) ≤ i := by omega
            have c3 : (i : Int).toNat = i := by omega
            have ei : IntKind.i64.wrap ((i : Int) + 1) = ((i + 1 : Nat) : Int) := by rw [w64 (by unfold I64; omega)]; omega
            have ht := take_all hp
            have hno := not_all hp
            generalize l[i] = b at *
            simp only [sxA, sxB, Nat.reduceBEq, Nat.reduceEqDiff, reduceCtorEq, mxA, mxB, Nat.reduceAdd, reduceIte, Nat.reduceLeDiff, splice, r0, r3, Zbw, hbl, c1, c3, hp, true_and]
            refine (q_ref22_more b.toNat H').thenW ?_
            rintro _ H2 _ hw2 ⟨rfl, rfl⟩
            cases hmb : moreF b.toNat with
            | false =>
              simp only [sxA, sxB, Nat.reduceBEq, Nat.reduceEqDiff, reduceCtorEq, mxA, mxB, Nat.reduceAdd, reduceIte, Nat.reduceLeDiff, splice, ret_linotyperef22_Name]
              exact .mk (Nat.le_refl _) ⟨by rw [hno hmb], rfl⟩
            | true =>
              simp only [sxA, sxB, Nat.reduceBEq, Nat.reduceEqDiff, reduceCtorEq, mxA, mxB, Nat.reduceAdd, reduceIte, Nat.reduceLeDiff, splice, r3, ei]
              refine ⟨l.length - (i + 1), by omega, i + 1, by omega, rfl, rfl, by rw [ht, hall, hmb]; rfl, ?_, ?_⟩
              all_goals simp only [uxA, uxB, Nat.reduceBEq, r0]
          · have h2 : i = l.length := by have := of_decide_eq_false h2; omega
            subst h2
            rw [List.take_length] at hall
            simp only [sxA, sxB, Nat.reduceBEq, Nat.reduceEqDiff, reduceCtorEq, mxA, mxB, Nat.reduceAdd, reduceIte, Nat.reduceLeDiff, splice, ret_linotyperef22_Name]
            exact .mk (Nat.le_refl _) ⟨by rw [hall], rfl⟩
end Go.Proofs.YthoanamkoigjeaaGreatDoor.code
