/- The forms of the table may be, and no two of them meet. -/
import Derived.Test.YtkoecjmmphmdeaaGreatDoorL9Tab
import Derived.Test.YtkoecjmmphmdeaaGreatDoorK6Clr
import Derived.Test.YtkoecjmmphmdeaaGreatDoorN3Check
import Derived.Test.YtkoecjmmphmdeaaGreatDoorN4Meets
set_option linter.unusedVariables false
set_option maxRecDepth 100000
namespace Go.Proofs.YtkoecjmmphmdeaaGreatDoor.code
open Go.Ab

theorem may_all : (Lall.all fun f => shpF f == 0) = true := by kernel_rfl
theorem codes : (Lall.all fun f => decide (0 ≤ f.code) && decide (f.code ≤ 255)) = true := by kernel_rfl
def bk (f : Fm) : Nat := ((((bif f.vex then 1 else 0) * 8 + f.pre.toNat) * 4 + f.map.toNat) * 2 + f.l.toNat) * 32 + (f.code / 8).toNat
theorem meets_bk {a b : Fm} (ha : 0 ≤ a.code ∧ a.code ≤ 255) (hb : 0 ≤ b.code ∧ b.code ≤ 255) (h : meetF a b = true) : bk a = bk b := by
  simp only [meetF, Bool.and_eq_true, beq_iff_eq] at h
  obtain ⟨⟨⟨⟨⟨h1, h2⟩, h3⟩, h4⟩, h5⟩, _⟩ := h
  have ho : opcF a b = true := by
    cases hc : opcF a b with
    | true => rfl
    | false => rw [hc] at h5; simp at h5
  have hA := clr7_eq a.code (by unfold I64; omega)
  have hB := clr7_eq b.code (by unfold I64; omega)
  have hcode : a.code / 8 = b.code / 8 := by
    simp only [opcF, beginsF, Bool.and_eq_true, beq_iff_eq] at ho
    obtain ⟨o1, o2⟩ := ho
    cases c1 : decide (0 ≤ idxI a.slots 4) <;> cases c2 : decide (0 ≤ idxI b.slots 4) <;> simp only [c1, c2, cond_true, cond_false] at o1 o2 <;> omega
  simp only [bk, h1, h2, h3, h4, hcode]

def idxd : Nat → List Fm → List (Nat × Fm)
  | _, [] => []
  | i, f :: l => (i, f) :: idxd (i + 1) l
theorem idxd_mem : ∀ (l : List Fm) (i k : Nat) (f : Fm), l[k]? = some f → (i + k, f) ∈ idxd i l
  | [], i, k, f, h => by simp at h
  | g :: l, i, 0, f, h => by simp at h; subst h; exact List.mem_cons_self ..
  | g :: l, i, k + 1, f, h => by
    have := idxd_mem l (i + 1) k f (by simpa using h)
    rw [show i + 1 + k = i + (k + 1) by omega] at this
    exact List.mem_cons_of_mem _ this
noncomputable def putB (x : Nat × Fm) (t : Tr (List (Nat × Fm))) : Tr (List (Nat × Fm)) := t.set (bk x.2) (some (x :: match t.get (bk x.2) with | some l => l | none => []))
noncomputable def allB (l : List (Nat × Fm)) : Tr (List (Nat × Fm)) := l.foldr putB .nil
theorem allB_mem : ∀ (l : List (Nat × Fm)) (x : Nat × Fm), x ∈ l → ∃ L, (allB l).get (bk x.2) = some L ∧ x ∈ L
  | [], x, h => by cases h
  | y :: l, x, h => by
    show ∃ L, (putB y (allB l)).get (bk x.2) = some L ∧ x ∈ L
    unfold putB
    rw [Tr.get_set]
    by_cases e : bk x.2 = bk y.2
    · rw [if_pos e]
      refine ⟨_, rfl, ?_⟩
      rcases List.mem_cons.1 h with rfl | h
      · exact List.mem_cons_self ..
      · obtain ⟨L, h1, h2⟩ := allB_mem l x h
        rw [← e, h1]
        exact List.mem_cons_of_mem _ h2
    · rw [if_neg e]
      rcases List.mem_cons.1 h with rfl | h
      · exact absurd rfl e
      · exact allB_mem l x h
noncomputable def TB : Tr (List (Nat × Fm)) := allB (idxd 0 Lall)
noncomputable def pairB (x : Nat × Fm) : Bool := match TB.get (bk x.2) with
  | some L => L.all fun y => meetF x.2 y.2 == Nat.beq x.1 y.1
  | none => false
theorem pairs : ((idxd 0 Lall).all pairB) = true := by kernel_rfl
theorem apart {i k : Nat} {a b : Fm} (ha : Lall[i]? = some a) (hb : Lall[k]? = some b) : meetF a b = decide (i = k) := by
  have h := List.all_eq_true.1 pairs _ (idxd_mem Lall 0 i a ha)
  obtain ⟨L, h1, h2⟩ := allB_mem _ _ (idxd_mem Lall 0 k b hb)
  have hca := List.all_eq_true.1 codes _ (List.mem_of_getElem? ha)
  have hcb := List.all_eq_true.1 codes _ (List.mem_of_getElem? hb)
  simp only [Bool.and_eq_true, decide_eq_true_eq] at hca hcb
  rw [Nat.zero_add] at h h2
  by_cases e : bk a = bk b
  · simp only [pairB, e] at h
    have h1 : TB.get (bk b) = some L := h1
    rw [h1] at h
    have := List.all_eq_true.1 h _ h2
    simp only [beq_iff_eq] at this
    rw [this, nbeq]
  · have hn : ¬ meetF a b = true := fun h => e (meets_bk hca hcb h)
    have hik : ¬ i = k := by
      rintro rfl
      rw [ha] at hb
      cases hb
      exact e rfl
    rw [decide_eq_false hik]
    simpa using hn
end Go.Proofs.YtkoecjmmphmdeaaGreatDoor.code
