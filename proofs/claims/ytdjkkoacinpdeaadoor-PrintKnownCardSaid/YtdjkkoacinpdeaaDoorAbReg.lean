/- The temporaries as a tree of sixteens. -/
import Derived.Test.YtdjkkoacinpdeaaDoorAbRun
set_option linter.unusedVariables false
namespace Go.Ab

inductive D where
  | d0 | d1 | d2 | d3 | d4 | d5 | d6 | d7 | d8 | d9 | d10 | d11 | d12 | d13 | d14 | d15

structure N16 (α : Type) where
  mk ::
  a0 : α
  a1 : α
  a2 : α
  a3 : α
  a4 : α
  a5 : α
  a6 : α
  a7 : α
  a8 : α
  a9 : α
  a10 : α
  a11 : α
  a12 : α
  a13 : α
  a14 : α
  a15 : α

def D.num : D → Nat
  | .d0 => 0
  | .d1 => 1
  | .d2 => 2
  | .d3 => 3
  | .d4 => 4
  | .d5 => 5
  | .d6 => 6
  | .d7 => 7
  | .d8 => 8
  | .d9 => 9
  | .d10 => 10
  | .d11 => 11
  | .d12 => 12
  | .d13 => 13
  | .d14 => 14
  | .d15 => 15

/-- The digit of a number below sixteen. -/
def dig (n : Nat) : D := bif Nat.beq n 0 then .d0 else bif Nat.beq n 1 then .d1 else bif Nat.beq n 2 then .d2 else bif Nat.beq n 3 then .d3 else bif Nat.beq n 4 then .d4 else bif Nat.beq n 5 then .d5 else bif Nat.beq n 6 then .d6 else bif Nat.beq n 7 then .d7 else bif Nat.beq n 8 then .d8 else bif Nat.beq n 9 then .d9 else bif Nat.beq n 10 then .d10 else bif Nat.beq n 11 then .d11 else bif Nat.beq n 12 then .d12 else bif Nat.beq n 13 then .d13 else bif Nat.beq n 14 then .d14 else .d15

theorem dig_num {n : Nat} (h : n < 16) : (dig n).num = n := by
  have : n = 0 ∨ n = 1 ∨ n = 2 ∨ n = 3 ∨ n = 4 ∨ n = 5 ∨ n = 6 ∨ n = 7 ∨ n = 8 ∨ n = 9 ∨ n = 10 ∨ n = 11 ∨ n = 12 ∨ n = 13 ∨ n = 14 ∨ n = 15 := by omega
  rcases this with rfl | rfl | rfl | rfl | rfl | rfl | rfl | rfl | rfl | rfl | rfl | rfl | rfl | rfl | rfl | rfl <;> rfl
theorem dig_inj {n m : Nat} (hn : n < 16) (hm : m < 16) (h : dig n = dig m) : n = m := by rw [← dig_num hn, ← dig_num hm, h]

noncomputable def N16.get {α : Type} (n : N16 α) (d : D) : α := D.rec (motive := fun _ => N16 α → α) N16.a0 N16.a1 N16.a2 N16.a3 N16.a4 N16.a5 N16.a6 N16.a7 N16.a8 N16.a9 N16.a10 N16.a11 N16.a12 N16.a13 N16.a14 N16.a15 d n
noncomputable def N16.set0 {α : Type} (v : α) (n : N16 α) : N16 α := N16.rec (motive := fun _ => N16 α) (fun a0 a1 a2 a3 a4 a5 a6 a7 a8 a9 a10 a11 a12 a13 a14 a15 => ⟨v, a1, a2, a3, a4, a5, a6, a7, a8, a9, a10, a11, a12, a13, a14, a15⟩) n
noncomputable def N16.set1 {α : Type} (v : α) (n : N16 α) : N16 α := N16.rec (motive := fun _ => N16 α) (fun a0 a1 a2 a3 a4 a5 a6 a7 a8 a9 a10 a11 a12 a13 a14 a15 => ⟨a0, v, a2, a3, a4, a5, a6, a7, a8, a9, a10, a11, a12, a13, a14, a15⟩) n
noncomputable def N16.set2 {α : Type} (v : α) (n : N16 α) : N16 α := N16.rec (motive := fun _ => N16 α) (fun a0 a1 a2 a3 a4 a5 a6 a7 a8 a9 a10 a11 a12 a13 a14 a15 => ⟨a0, a1, v, a3, a4, a5, a6, a7, a8, a9, a10, a11, a12, a13, a14, a15⟩) n
noncomputable def N16.set3 {α : Type} (v : α) (n : N16 α) : N16 α := N16.rec (motive := fun _ => N16 α) (fun a0 a1 a2 a3 a4 a5 a6 a7 a8 a9 a10 a11 a12 a13 a14 a15 => ⟨a0, a1, a2, v, a4, a5, a6, a7, a8, a9, a10, a11, a12, a13, a14, a15⟩) n
noncomputable def N16.set4 {α : Type} (v : α) (n : N16 α) : N16 α := N16.rec (motive := fun _ => N16 α) (fun a0 a1 a2 a3 a4 a5 a6 a7 a8 a9 a10 a11 a12 a13 a14 a15 => ⟨a0, a1, a2, a3, v, a5, a6, a7, a8, a9, a10, a11, a12, a13, a14, a15⟩) n
noncomputable def N16.set5 {α : Type} (v : α) (n : N16 α) : N16 α := N16.rec (motive := fun _ => N16 α) (fun a0 a1 a2 a3 a4 a5 a6 a7 a8 a9 a10 a11 a12 a13 a14 a15 => ⟨a0, a1, a2, a3, a4, v, a6, a7, a8, a9, a10, a11, a12, a13, a14, a15⟩) n
noncomputable def N16.set6 {α : Type} (v : α) (n : N16 α) : N16 α := N16.rec (motive := fun _ => N16 α) (fun a0 a1 a2 a3 a4 a5 a6 a7 a8 a9 a10 a11 a12 a13 a14 a15 => ⟨a0, a1, a2, a3, a4, a5, v, a7, a8, a9, a10, a11, a12, a13, a14, a15⟩) n
noncomputable def N16.set7 {α : Type} (v : α) (n : N16 α) : N16 α := N16.rec (motive := fun _ => N16 α) (fun a0 a1 a2 a3 a4 a5 a6 a7 a8 a9 a10 a11 a12 a13 a14 a15 => ⟨a0, a1, a2, a3, a4, a5, a6, v, a8, a9, a10, a11, a12, a13, a14, a15⟩) n
noncomputable def N16.set8 {α : Type} (v : α) (n : N16 α) : N16 α := N16.rec (motive := fun _ => N16 α) (fun a0 a1 a2 a3 a4 a5 a6 a7 a8 a9 a10 a11 a12 a13 a14 a15 => ⟨a0, a1, a2, a3, a4, a5, a6, a7, v, a9, a10, a11, a12, a13, a14, a15⟩) n
noncomputable def N16.set9 {α : Type} (v : α) (n : N16 α) : N16 α := N16.rec (motive := fun _ => N16 α) (fun a0 a1 a2 a3 a4 a5 a6 a7 a8 a9 a10 a11 a12 a13 a14 a15 => ⟨a0, a1, a2, a3, a4, a5, a6, a7, a8, v, a10, a11, a12, a13, a14, a15⟩) n
noncomputable def N16.set10 {α : Type} (v : α) (n : N16 α) : N16 α := N16.rec (motive := fun _ => N16 α) (fun a0 a1 a2 a3 a4 a5 a6 a7 a8 a9 a10 a11 a12 a13 a14 a15 => ⟨a0, a1, a2, a3, a4, a5, a6, a7, a8, a9, v, a11, a12, a13, a14, a15⟩) n
noncomputable def N16.set11 {α : Type} (v : α) (n : N16 α) : N16 α := N16.rec (motive := fun _ => N16 α) (fun a0 a1 a2 a3 a4 a5 a6 a7 a8 a9 a10 a11 a12 a13 a14 a15 => ⟨a0, a1, a2, a3, a4, a5, a6, a7, a8, a9, a10, v, a12, a13, a14, a15⟩) n
noncomputable def N16.set12 {α : Type} (v : α) (n : N16 α) : N16 α := N16.rec (motive := fun _ => N16 α) (fun a0 a1 a2 a3 a4 a5 a6 a7 a8 a9 a10 a11 a12 a13 a14 a15 => ⟨a0, a1, a2, a3, a4, a5, a6, a7, a8, a9, a10, a11, v, a13, a14, a15⟩) n
noncomputable def N16.set13 {α : Type} (v : α) (n : N16 α) : N16 α := N16.rec (motive := fun _ => N16 α) (fun a0 a1 a2 a3 a4 a5 a6 a7 a8 a9 a10 a11 a12 a13 a14 a15 => ⟨a0, a1, a2, a3, a4, a5, a6, a7, a8, a9, a10, a11, a12, v, a14, a15⟩) n
noncomputable def N16.set14 {α : Type} (v : α) (n : N16 α) : N16 α := N16.rec (motive := fun _ => N16 α) (fun a0 a1 a2 a3 a4 a5 a6 a7 a8 a9 a10 a11 a12 a13 a14 a15 => ⟨a0, a1, a2, a3, a4, a5, a6, a7, a8, a9, a10, a11, a12, a13, v, a15⟩) n
noncomputable def N16.set15 {α : Type} (v : α) (n : N16 α) : N16 α := N16.rec (motive := fun _ => N16 α) (fun a0 a1 a2 a3 a4 a5 a6 a7 a8 a9 a10 a11 a12 a13 a14 a15 => ⟨a0, a1, a2, a3, a4, a5, a6, a7, a8, a9, a10, a11, a12, a13, a14, v⟩) n
noncomputable def N16.put {α : Type} (n : N16 α) (d : D) (v : α) : N16 α := D.rec (motive := fun _ => α → N16 α → N16 α) N16.set0 N16.set1 N16.set2 N16.set3 N16.set4 N16.set5 N16.set6 N16.set7 N16.set8 N16.set9 N16.set10 N16.set11 N16.set12 N16.set13 N16.set14 N16.set15 d v n
theorem N16.get_put {α : Type} (n : N16 α) (d dx : D) (v : α) [Decidable (dx = d)] : (n.put d v).get dx = if dx = d then v else n.get dx := by
  obtain ⟨a0, a1, a2, a3, a4, a5, a6, a7, a8, a9, a10, a11, a12, a13, a14, a15⟩ := n
  split
  · rename_i h; subst h; cases dx <;> rfl
  · rename_i h; cases d <;> cases dx <;> first | rfl | exact absurd rfl h
def N16.all {α : Type} (v : α) : N16 α := ⟨v, v, v, v, v, v, v, v, v, v, v, v, v, v, v, v⟩
theorem N16.get_all {α : Type} (v : α) (d : D) : (N16.all v).get d = v := by cases d <;> rfl

abbrev E := N16 (N16 Value)

/-- The temporaries. -/
noncomputable def envT (e : E) : Env := fun t => (e.get (dig (Nat.div t 16))).get (dig (Nat.mod t 16))

/-- An operand's value. -/
noncomputable def evE (x : Operand) (e : E) : Value :=
  Operand.rec (motive := fun _ => E → Value) (fun t e => (e.get (dig (Nat.div t 16))).get (dig (Nat.mod t 16))) (fun v _ => v) (fun g _ => .pointer (some ⟨g, 0, none⟩)) (fun f _ => .func (.func f) #[] #[]) x e
theorem evE_eq (x : Operand) (e : E) : evE x e = ev (envT e) x := by cases x <;> rfl

noncomputable def putN (e : E) (d : Nat) (v : Value) : E := e.put (dig (Nat.div d 16)) ((e.get (dig (Nat.div d 16))).put (dig (Nat.mod d 16)) v)

noncomputable def putT (e : E) (d : Option Nat) (v : Value) : E := Option.rec (motive := fun _ => E) e (fun d => putN e d v) d

/-- Up to the last temporary. -/
def upTo (A B : Env) : Prop := ∀ t, t < 256 → A t = B t

open Classical in
theorem envT_putN (e : E) {d t : Nat} (v : Value) (hd : d < 256) (ht : t < 256) : envT (putN e d v) t = upd (envT e) d v t := by
  have e1 : ∀ x y : Nat, Nat.div x y = x / y := fun _ _ => rfl
  have e2 : ∀ x y : Nat, Nat.mod x y = x % y := fun _ _ => rfl
  simp only [envT, putN, upd, nbeq, e1, e2]
  rw [N16.get_put]
  by_cases h : t = d
  · subst h; rw [if_pos rfl, N16.get_put, if_pos rfl]; simp
  · simp only [h, decide_false, cond_false]
    by_cases h1 : dig (t / 16) = dig (d / 16)
    · rw [if_pos h1, N16.get_put]
      have h2 := dig_inj (by omega) (by omega) h1
      rw [if_neg (fun h3 => h (by have := dig_inj (by omega) (by omega) h3; omega)), h1]
    · rw [if_neg h1]

theorem envT_put (e : E) {d : Option Nat} (v : Value) (hd : dstOk 256 d = true) : upTo (envT (putT e d v)) (updO (envT e) d v) := by
  intro t ht
  cases d with
  | none => rfl
  | some d => exact envT_putN e v (by simpa [dstOk] using hd) ht

def E.none : E := N16.all (N16.all undef)
theorem envT_none (t : Nat) : envT E.none t = undef := by simp only [envT, E.none, N16.get_all]

noncomputable def argsE : List Value → Nat → E → E
  | [], _, e => e
  | v :: vs, i, e => argsE vs (i + 1) (putN e i v)

theorem argsE_get : ∀ (l : List Value) (i : Nat) (e : E) (j : Nat), i + l.length ≤ 256 → j < 256 → envT (argsE l i e) j = if i ≤ j ∧ j < i + l.length then l.getD (j - i) undef else envT e j
  | [], i, e, j, _, _ => by simp [argsE]; omega
  | v :: l, i, e, j, h, hj => by
    simp only [List.length_cons] at h
    simp only [argsE]
    rw [argsE_get l (i + 1) _ j (by omega) hj, envT_putN e v (by omega) hj]
    simp only [List.length_cons]
    by_cases h1 : j = i
    · subst h1; rw [if_neg (by omega), if_pos ⟨by omega, by omega⟩]; simp
    · by_cases h2 : i + 1 ≤ j ∧ j < i + 1 + l.length
      · rw [if_pos h2, if_pos ⟨by omega, by omega⟩, show j - i = (j - (i + 1)) + 1 by omega]; simp
      · rw [if_neg h2, if_neg (by omega), upd_ne _ _ h1]

theorem envT_args {l : List Value} (h : l.length ≤ 256) : upTo (envT (argsE l 0 E.none)) (envOf l) := by
  intro j hj
  rw [argsE_get l 0 _ j (by omega) hj]
  simp only [envOf, Nat.zero_le, true_and, Nat.zero_add, Nat.sub_zero, envT_none]
  split
  · rfl
  · rename_i h1; simp [List.getD, List.getElem?_eq_none (by omega : l.length ≤ j)]
end Go.Ab
