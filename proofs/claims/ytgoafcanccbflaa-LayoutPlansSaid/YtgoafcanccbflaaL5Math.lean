/- The plain mathematics of laying. -/
import Derived.Test.YtgoafcanccbflaaL4Parts
set_option linter.unusedVariables false
set_option linter.unusedSimpArgs false
set_option maxRecDepth 100000
namespace Go.Proofs.Ytgoafcanccbflaa.lay
open Go.Ab

def bvand (a b : Int) : Int := ((BitVec.ofInt 64 a &&& BitVec.ofInt 64 b).toNat : Int)

theorem ofInt_toNat (h : Int) (h0 : 0 ≤ h) (h1 : h < 9223372036854775808) : (BitVec.ofInt 64 h).toNat = h.toNat := by
  rw [BitVec.toNat_ofInt]; omega

theorem and_mask (h : Int) (k : Nat) (h0 : 0 ≤ h) (h1 : h < 9223372036854775808) (hk : k ≤ 12) : bvand h (2 ^ k - 1) = h % 2 ^ k := by
  have hp : (1 : Int) ≤ 2 ^ k := by exact_mod_cast Nat.one_le_two_pow
  have hp2 : ((2 : Int) ^ k) ≤ 4096 := by
    have : (2 : Nat) ^ k ≤ 2 ^ 12 := Nat.pow_le_pow_right (by decide) hk
    exact_mod_cast this
  unfold bvand
  rw [BitVec.toNat_and, ofInt_toNat h h0 h1, ofInt_toNat (2 ^ k - 1) (by omega) (by omega)]
  have e : ((2 : Int) ^ k - 1).toNat = 2 ^ k - 1 := by
    have : ((2 : Int) ^ k) = ((2 ^ k : Nat) : Int) := by norm_cast
    rw [this]; omega
  rw [e, Nat.and_two_pow_sub_one_eq_mod]
  have e2 : ((h.toNat : Nat) : Int) = h := by omega
  push_cast
  rw [e2]

def isPow (n : Int) : Bool := (List.range 13).any fun j => n == 2 ^ j
theorem isPow_spec {n : Int} (h : isPow n = true) : ∃ k, k ≤ 12 ∧ n = 2 ^ k := by
  unfold isPow at h
  rw [List.any_eq_true] at h
  obtain ⟨j, hj, he⟩ := h
  rw [List.mem_range] at hj
  exact ⟨j, by omega, by simpa using he⟩

theorem pow_bits : ∀ n : Fin 4097, 1 ≤ n.val → (Nat.land n.val (n.val - 1) == 0) = ((List.range 13).any fun j => n.val == 2 ^ j) := by decide +kernel

theorem align_ok (a : Int) (h : 1 ≤ a ∧ a ≤ 4096) : (IntKind.i64.wrap (BitVec.ofInt IntKind.i64.bits a &&& BitVec.ofInt IntKind.i64.bits (IntKind.i64.wrap (a - 1))).toNat == 0) = isPow a := by
  have e : IntKind.i64.wrap (a - 1) = a - 1 := w64 (by unfold I64; omega)
  have e64 : IntKind.i64.bits = 64 := rfl
  rw [e, e64, BitVec.toNat_and, ofInt_toNat a (by omega) (by omega), ofInt_toNat (a - 1) (by omega) (by omega)]
  have hb := pow_bits ⟨a.toNat, by omega⟩ (by show 1 ≤ a.toNat; omega)
  simp only at hb
  have e2 : (a - 1).toNat = a.toNat - 1 := by omega
  rw [e2]
  have hle : (a.toNat &&& (a.toNat - 1)) ≤ a.toNat := Nat.and_le_left
  rw [w64 (by unfold I64; omega)]
  have e3 : ((((a.toNat &&& (a.toNat - 1)) : Nat) : Int) == 0) = (Nat.land a.toNat (a.toNat - 1) == 0) := by
    rw [Bool.eq_iff_iff]; simp only [beq_iff_eq]
    exact ⟨fun h => by exact_mod_cast h, fun h => by exact_mod_cast h⟩
  rw [e3, hb]
  unfold isPow
  congr 1
  funext j
  rw [Bool.eq_iff_iff]; simp only [beq_iff_eq]
  constructor
  · intro h; have : ((a.toNat : Nat) : Int) = ((2 ^ j : Nat) : Int) := by rw [h]
    rw [show ((a.toNat : Nat) : Int) = a by omega] at this; rw [this]; norm_cast
  · intro h; rw [h]
    have : ((2 : Int) ^ j) = ((2 ^ j : Nat) : Int) := by norm_cast
    rw [this]; exact Int.toNat_natCast _

/-- A piece that may be. -/
structure PieceOk (p : Pc) (n : Int) : Prop where
  fixed : p.kind = 1 → 0 ≤ p.size ∧ p.size ≤ 1048576
  branch : p.kind = 2 → 1 ≤ p.short ∧ p.short < p.near ∧ p.near ≤ 15 ∧ 0 ≤ p.target ∧ p.target ≤ n ∧ -2147483648 ≤ p.off ∧ p.off < 2147483648
  align : p.kind = 3 → isPow p.align = true
  kind : p.kind = 1 ∨ p.kind = 2 ∨ p.kind = 3

theorem valid_ok {p : Pc} {n : Int} (h : validR p n = true) : PieceOk p n := by
  unfold validR at h
  cases h1 : p.kind == 1 with
  | true =>
    have e : p.kind = 1 := by simpa using h1
    simp only [h1, cond_true, Bool.and_eq_true, decide_eq_true_eq] at h
    exact ⟨fun _ => ⟨h.1.2, h.2⟩, fun h => by omega, fun h => by omega, .inl e⟩
  | false =>
    cases h2 : p.kind == 2 with
    | true =>
      have e : p.kind = 2 := by simpa using h2
      simp only [h1, h2, cond_true, cond_false, Bool.and_eq_true, decide_eq_true_eq, fits] at h
      have h3 := h.2
      rw [show ((2 : Int) ^ (32 - 1)) = 2147483648 from rfl] at h3
      exact ⟨fun h => by omega, fun _ => ⟨h.1.1.1.1.1.2, h.1.1.1.1.2, h.1.1.1.2, h.1.1.2, h.1.2, h3.1, h3.2⟩, fun h => by omega, .inr (.inl e)⟩
    | false =>
      cases h3 : p.kind == 3 with
      | true =>
        have e : p.kind = 3 := by simpa using h3
        simp only [h1, h2, h3, cond_true, cond_false, Bool.and_eq_true, decide_eq_true_eq] at h
        exact ⟨fun h => by omega, fun h => by omega, fun _ => by rw [← align_ok p.align ⟨h.1.1.2, h.1.2⟩]; exact h.2, .inr (.inr e)⟩
      | false => simp [h1, h2, h3] at h

/-- How many bytes a piece has. -/
def sizeM (p : Pc) (h : Int) (near : Bool) : Int := if p.kind = 1 then p.size else if p.kind = 2 then (if near then p.near else p.short) else (p.align - h % p.align) % p.align

theorem sizeM_range {p : Pc} {n h : Int} {b : Bool} (hp : PieceOk p n) (h0 : 0 ≤ h) : 0 ≤ sizeM p h b ∧ sizeM p h b ≤ 1048576 := by
  unfold sizeM
  rcases hp.kind with e | e | e
  · rw [if_pos e]; exact hp.fixed e
  · rw [if_neg (by omega), if_pos e]; have := hp.branch e; split <;> omega
  · rw [if_neg (by omega), if_neg (by omega)]
    obtain ⟨k, hk, e2⟩ := isPow_spec (hp.align e)
    have hp1 : (1 : Int) ≤ 2 ^ k := by exact_mod_cast Nat.one_le_two_pow
    have hp2 : ((2 : Int) ^ k) ≤ 4096 := by
      have : (2 : Nat) ^ k ≤ 2 ^ 12 := Nat.pow_le_pow_right (by decide) hk
      exact_mod_cast this
    rw [e2]
    have h1 := Int.emod_nonneg (2 ^ k - h % 2 ^ k) (by omega : (2 : Int) ^ k ≠ 0)
    have h2 := Int.emod_lt_of_pos (2 ^ k - h % 2 ^ k) (by omega : (0 : Int) < 2 ^ k)
    omega

theorem align_code {p : Pc} {n h : Int} {b : Bool} (hp : PieceOk p n) (e : p.kind = 3) (h0 : 0 ≤ h) (h1 : h < 4611686018427387904) :
    IntKind.i64.wrap (BitVec.ofInt IntKind.i64.bits (IntKind.i64.wrap (p.align - IntKind.i64.wrap (BitVec.ofInt IntKind.i64.bits h &&& BitVec.ofInt IntKind.i64.bits (IntKind.i64.wrap (p.align - 1))).toNat)) &&& BitVec.ofInt IntKind.i64.bits (IntKind.i64.wrap (p.align - 1))).toNat = sizeM p h b := by
  obtain ⟨k, hk, e2⟩ := isPow_spec (hp.align e)
  have hp1 : (1 : Int) ≤ 2 ^ k := by exact_mod_cast Nat.one_le_two_pow
  have hp2 : ((2 : Int) ^ k) ≤ 4096 := by
    have : (2 : Nat) ^ k ≤ 2 ^ 12 := Nat.pow_le_pow_right (by decide) hk
    exact_mod_cast this
  have a1 := Int.emod_nonneg h (by omega : (2 : Int) ^ k ≠ 0)
  have a2 := Int.emod_lt_of_pos h (by omega : (0 : Int) < 2 ^ k)
  have b1 := Int.emod_nonneg (2 ^ k - h % 2 ^ k) (by omega : (2 : Int) ^ k ≠ 0)
  have b2 := Int.emod_lt_of_pos (2 ^ k - h % 2 ^ k) (by omega : (0 : Int) < 2 ^ k)
  have m1 := and_mask h k h0 (by omega) hk
  have m2 := and_mask (2 ^ k - h % 2 ^ k) k (by omega) (by omega) hk
  unfold bvand at m1 m2
  have e64 : IntKind.i64.bits = 64 := rfl
  rw [e2, e64, w64 (n := 2 ^ k - 1) (by unfold I64; omega), m1, w64 (n := h % 2 ^ k) (by unfold I64; omega), w64 (n := 2 ^ k - h % 2 ^ k) (by unfold I64; omega), m2, w64 (by unfold I64; omega)]
  unfold sizeM
  rw [if_neg (by omega), if_neg (by omega), e2]

/-- Where all lie. -/
def posL : List Pc → List Bool → Int → List Int
  | [], _, h => [h]
  | p :: l, bs, h => h :: posL l bs.tail (h + sizeM p h (bs.headD false))
theorem posL_length : ∀ (l : List Pc) (bs : List Bool) (h : Int), (posL l bs h).length = l.length + 1
  | [], _, _ => rfl
  | p :: l, bs, h => by simp [posL, posL_length l]
theorem posL_zero (l : List Pc) (bs : List Bool) (h : Int) : (posL l bs h).getD 0 0 = h := by cases l <;> rfl
theorem posL_succ : ∀ (l : List Pc) (bs : List Bool) (h : Int) (i : Nat) (p : Pc), l[i]? = some p → (posL l bs h).getD (i + 1) 0 = (posL l bs h).getD i 0 + sizeM p ((posL l bs h).getD i 0) (bs.getD i false)
  | [], _, _, i, p, hp => by simp at hp
  | q :: l, bs, h, 0, p, hp => by
    simp at hp; subst hp
    have := posL_zero l bs.tail (h + sizeM q h (bs.headD false))
    simp only [posL, List.getD_cons_succ, List.getD_cons_zero, this]
    cases bs <;> rfl
  | q :: l, bs, h, i + 1, p, hp => by
    have := posL_succ l bs.tail (h + sizeM q h (bs.headD false)) i p (by simpa using hp)
    simp only [posL, List.getD_cons_succ]
    rw [this]
    cases bs <;> simp
theorem posL_bound (l : List Pc) (bs : List Bool) (h n : Int) (hl : ∀ p ∈ l, PieceOk p n) (h0 : 0 ≤ h) : ∀ i, i ≤ l.length → h ≤ (posL l bs h).getD i 0 ∧ (posL l bs h).getD i 0 ≤ h + i * 1048576 := by
  intro i
  induction i with
  | zero => intro _; rw [posL_zero]; simp
  | succ i ih =>
    intro hi
    have hlt : i < l.length := by omega
    obtain ⟨i1, i2⟩ := ih (by omega)
    rw [posL_succ l bs h i _ (List.getElem?_eq_getElem hlt)]
    have := sizeM_range (b := bs.getD i false) (hl l[i] (List.getElem_mem hlt)) (by omega : 0 ≤ (posL l bs h).getD i 0)
    constructor
    · omega
    · push_cast; omega
end Go.Proofs.Ytgoafcanccbflaa.lay
