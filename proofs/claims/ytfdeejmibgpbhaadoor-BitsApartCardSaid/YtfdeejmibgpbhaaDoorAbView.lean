/- A closed call over a small heap, whose blocks are found in a great one: what it tells it tells there too. -/
import Derived.Test.YtfdeejmibgpbhaaDoorAbArgs
set_option linter.unusedVariables false
namespace Go.Ab
open Go.RowKit

/-- The renaming of the small heap. -/
def back (ρ : Ren) (τ : Nat → Nat) (n : Nat) : Ren := fun id => if id < n then ρ (τ id) else none
theorem back_some {ρ : Ren} {τ : Nat → Nat} {n id : Nat} {i : Info} (h : back ρ τ n id = some i) : id < n ∧ ρ (τ id) = some i := by
  unfold back at h
  split at h
  · rename_i hl; exact ⟨hl, h⟩
  · cases h

/-- A value of the small heap, seen in the great one. -/
def Seen (τ : Nat → Nat) (n : Nat) (x y : Value) : Prop := ∀ ρ v, V ρ y v → V (back ρ τ n) x v
theorem Seen.plain {τ : Nat → Nat} {n : Nat} {x : Value} (h : plain x = true) : Seen τ n x x := fun ρ v hv => by
  rw [hv.plain_eq h]; exact .same x h
theorem Seen.slice {τ : Nat → Nat} {n id o l c : Nat} (h : id < n) : Seen τ n (.slice (some ⟨id, o, none⟩) l c) (.slice (some ⟨τ id, o, none⟩) l c) := fun ρ v hv => by
  cases hv with
  | same _ hp => simp [Ab.plain] at hp
  | slice _ _ _ _ cap' i a' h0 h1 h2 h3 h4 h5 => exact .slice id o l c cap' i a' (by unfold back; rw [if_pos h]; exact h0) h1 h2 h3 h4 h5
theorem Seen.ptr {τ : Nat → Nat} {n id o : Nat} (h : id < n) : Seen τ n (.pointer (some ⟨id, o, none⟩)) (.pointer (some ⟨τ id, o, none⟩)) := fun ρ v hv => by
  cases hv with
  | same _ hp => simp [Ab.plain] at hp
  | ptr _ _ i h0 => exact .ptr id o i (by unfold back; rw [if_pos h]; exact h0)
theorem Seen.agg {τ : Nat → Nat} {n : Nat} {xs ys : List Value} (hl : xs.length = ys.length) (h : ∀ (j : Nat) x y, xs[j]? = some x → ys[j]? = some y → Seen τ n x y) : Seen τ n (.agg xs.toArray) (.agg ys.toArray) := fun ρ v hv => by
  cases hv with
  | same _ hp => simp [Ab.plain] at hp
  | agg _ vs h1 h2 =>
    refine .agg _ vs (by simpa [hl] using h1) fun j x x' hx hx' => ?_
    have hj : j < ys.length := by
      have := (Array.getElem?_eq_some_iff.1 hx).1
      simp at this; omega
    exact h j x ys[j] (by simpa using hx) (List.getElem?_eq_getElem hj) ρ x' (h2 j _ x' (by simp [hj]) hx')

variable {P : Program}

theorem does_view {f : FuncId} {args args2 : List Value} {v : Value} {B H1 H : Heap} {τ : Nat → Nat} (hd : Does P f args B (.ret v) H1) (hv : plain v = true) (hg : P.globals.size ≤ B.next) (hτ : ∀ g, g < P.globals.size → τ g = g)
    (hB : ∀ id b, B.get id = some b → ∃ c e c2 e2 ro, b = .cells c e true ∧ H.get (τ id) = some (.cells c2 e2 ro) ∧ c.length = c2.length ∧ ∀ (j : Nat) x y, c[j]? = some x → c2[j]? = some y → Seen τ B.next x y)
    (hl : args.length = args2.length) (ha : ∀ (j : Nat) x y, args[j]? = some x → args2[j]? = some y → Seen τ B.next x y) : Does P f args2 H (.ret v) H := by
  intro ρ w args' hs hargs
  have hargs' : VL (back ρ τ B.next) args args' := ⟨by rw [hl]; exact hargs.1, fun j x x' e e' => by
    have hj : j < args2.length := by have := (List.getElem?_eq_some_iff.1 e).1; omega
    exact ha j x args2[j] e (List.getElem?_eq_getElem hj) ρ x' (hargs.2 j _ x' (List.getElem?_eq_getElem hj) e')⟩
  have hsim : Sim P (back ρ τ B.next) B w := by
    refine ⟨fun id j h => (back_some h).1, fun id b i hb hi => ?_, fun id1 id2 b1 b2 i1 i2 h1 h2 h3 h4 h5 => ?_, fun g hgl => ?_⟩
    · obtain ⟨c, e, c2, e2, ro, rfl, hh, hc, hx⟩ := hB id b hb
      have hr := hs.live _ _ i hh (back_some hi).2
      refine ⟨hr.lt, fun j u hj => ?_⟩
      have hj2 : j < c2.length := by have := (List.getElem?_eq_some_iff.1 hj).1; omega
      obtain ⟨u', h1, h2⟩ := hr.cellAt (List.getElem?_eq_getElem hj2)
      exact ⟨u', h1, hx j u c2[j] hj (List.getElem?_eq_getElem hj2) ρ u' h2⟩
    · obtain ⟨c, e, c2, e2, ro, rfl, _⟩ := hB id1 b1 h1
      cases h5
    · obtain ⟨j, hj, e⟩ := hs.glob g hgl
      refine ⟨j, ?_, e⟩
      unfold back
      rw [if_pos (by omega), hτ g hgl]; exact hj
  refine (hd _ w args' hsim hargs').mono ?_
  rintro e w' ⟨ρ', ho, hst, hs'⟩
  have hbel := hst.below (fun id b h => by obtain ⟨c, e, c2, e2, ro, rfl, _⟩ := hB id b h; rfl)
  refine ⟨ρ, ?_, ⟨.refl ρ, Nat.le_refl _, fun _ _ _ h => h, fun _ _ b b' _ h hr h' => (by rw [h] at h'; cases h'; exact hr), fun id i h h' => (by rw [h'] at h; cases h), hbel.os, hbel.tape, hbel.output, hbel.size, fun b hb _ => hbel.block b hb⟩,
    ⟨hs.dom, fun id b i h h' => (hs.live id b i h h').mono (.refl ρ) (hbel.block _ (hs.live id b i h h').lt), hs.sep, hs.glob⟩⟩
  cases e with
  | returned v' =>
    have : v' = v := V.plain_eq ho hv
    subst this
    exact .same _ hv
  | _ => exact ho.elim
end Go.Ab
