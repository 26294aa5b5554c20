/- From what came in to the abstract heap, and back to the kit's calls. -/
import Derived.Test.YtfdeejmibgpbhaaDoorAbBridge
import Derived.Test.YtfdeejmibgpbhaaDoorAbSx
set_option linter.unusedVariables false
namespace Go.Ab
open Go.RowKit
section
variable {P : Program} {ρ : Ren} {H : Heap} {w : World}

/-- No block may be written. -/
def AllRo (H : Heap) : Prop := ∀ id b, H.get id = some b → b.ro = true

theorem allRo_H0 : AllRo (H0 P) := fun id b h => by rw [H0_get] at h; cases h
theorem wf_H0 : (H0 P).Wf := fun id _ => H0_get P id

/-- Cells that came in. -/
theorem Sim.addRo (hs : Sim P ρ H w) (hro : AllRo H) {c : List Value} (e : TypeId) {a : Addr} (hlt : a.block < w.heap.size) (hc : ∀ (j : Nat) v, c[j]? = some v → ∃ v', w.cell? (a.add j) = some v' ∧ V ρ v v') :
    Sim P (ext ρ H.next ⟨a, 0, 0⟩) (H.push (.cells c e true)) w := by
  have hn := hs.none_next
  have hsub := sub_ext ⟨a, 0, 0⟩ hn
  refine ⟨fun id j h => ?_, fun id bl j h h' => ?_, fun id1 id2 b1 b2 i1 i2 h1 h2 h3 h4 h5 h6 => ?_, fun g hg => ?_⟩
  · by_cases ee : id = H.next
    · subst ee; simp
    · rw [ext_ne ρ _ ee] at h; have := hs.dom _ _ h; simp; omega
  · by_cases ee : id = H.next
    · subst ee
      rw [ext_same] at h'; cases h'
      rw [Heap.get_push, if_pos rfl] at h; cases h
      exact ⟨hlt, fun j v hj => by obtain ⟨v', x1, x2⟩ := hc j v hj; exact ⟨v', x1, x2.mono hsub⟩⟩
    · rw [ext_ne ρ _ ee] at h'; rw [Heap.get_push, if_neg ee] at h
      exact (hs.live id bl j h h').mono hsub rfl
  · have : b1.ro = true := by
      by_cases ee : id1 = H.next
      · subst ee; rw [Heap.get_push, if_pos rfl] at h1; cases h1; rfl
      · rw [Heap.get_push, if_neg ee] at h1; exact hro _ _ h1
    rw [this] at h5; cases h5
  · obtain ⟨j, hj, ee⟩ := hs.glob g hg
    exact ⟨j, hsub _ _ hj, ee⟩

/-- A number for an address of which nothing is known. -/
theorem Sim.addDead (hs : Sim P ρ H w) (hw : H.Wf) (a : Addr) : Sim P (ext ρ H.next ⟨a, 0, 0⟩) (H.up (H.next + 1)) w := by
  have hn := hs.none_next
  have hsub := sub_ext ⟨a, 0, 0⟩ hn
  refine ⟨fun id j h => ?_, fun id bl j h h' => ?_, fun id1 id2 b1 b2 i1 i2 h1 h2 h3 h4 h5 h6 => ?_, fun g hg => ?_⟩
  · by_cases ee : id = H.next
    · subst ee; simp
    · rw [ext_ne ρ _ ee] at h; have := hs.dom _ _ h; simp; omega
  · rw [Heap.get_up] at h
    have := hw.lt h
    rw [ext_ne ρ _ (by omega)] at h'
    exact (hs.live id bl j h h').mono hsub rfl
  · rw [Heap.get_up] at h1 h2
    have := hw.lt h1
    have := hw.lt h2
    rw [ext_ne ρ _ (by omega)] at h3 h4
    exact hs.sep id1 id2 b1 b2 i1 i2 h1 h2 h3 h4 h5 h6
  · obtain ⟨j, hj, ee⟩ := hs.glob g hg
    exact ⟨j, hsub _ _ hj, ee⟩

theorem AllRo.push (h : AllRo H) (c : List Value) (e : TypeId) : AllRo (H.push (.cells c e true)) := fun id b hb => by
  rw [Heap.get_push] at hb
  split at hb
  · cases hb; rfl
  · exact h id b hb
theorem AllRo.up (h : AllRo H) (m : Nat) : AllRo (H.up m) := fun id b hb => h id b (by rw [Heap.get_up] at hb; exact hb)

/-- A slice that came in. -/
theorem V.sliceIn {id len cap : Nat} {a : Addr} (hi : ρ id = some ⟨a, 0, 0⟩) (hl : len ≤ cap) (hc : cap < UNK) : V ρ (.slice (some ⟨id, 0, none⟩) len cap) (.slice (some a) len cap) :=
  .slice id 0 len cap cap ⟨a, 0, 0⟩ a hi (.inl (by rw [show (⟨a, 0, 0⟩ : Info).at_ = a from rfl]; unfold Addr.add; rw [if_pos rfl])) hl hc (fun h => by omega) (fun _ => rfl)

/-- A contract of a law, as the kit's calls say it. -/
theorem calls_of_callQ {f : FuncId} {args args' : List Value} {X : Value → Heap → Prop} (h : CallQ P f args H fun u H' => u = .bool true ∧ X u H') (hw : H.Wf) (he : entered P f = true) (hs : Sim P ρ H w) (ha : VL ρ args args') (hro : AllRo H) :
    Calls P f args'.toArray w fun e w' => e = .returned (.bool true) ∧ Below w.heap.size w w' := by
  obtain ⟨v, H', hc, _, _, rfl, _⟩ := h hw
  exact calls_of_does (hc.does he) hs ha rfl hro

theorem cells_get {base : Nat} {a : Addr} {n : Nat} {cs : List Value} (h : w.cells? base a n = some cs) : cs.length = n ∧ ∀ i, i < n → w.cell? (a.add i) = cs[i]? := by
  unfold World.cells? at h
  split at h
  · have hl := run_results.mapM_length h
    refine ⟨by simpa using hl, fun i hi => ?_⟩
    have key : ∀ (l : List Nat) (cs : List Value), l.mapM (fun i => w.cell? (a.add i)) = some cs → ∀ (j : Nat) x, l[j]? = some x → w.cell? (a.add x) = cs[j]? := by
      intro l
      induction l with
      | nil => intro cs h j x hx; simp at hx
      | cons y l ih =>
        intro cs h j x hx
        simp only [List.mapM_cons, Option.bind_eq_bind, Option.bind_eq_some_iff, Option.pure_def, Option.some.injEq] at h
        obtain ⟨v, hv, vs, hvs, rfl⟩ := h
        cases j with
        | zero => simp at hx; subst hx; simpa using hv
        | succ j => simpa using ih vs hvs j x (by simpa using hx)
    exact key _ _ h i i (by simp [hi])
  · cases h
end
end Go.Ab
