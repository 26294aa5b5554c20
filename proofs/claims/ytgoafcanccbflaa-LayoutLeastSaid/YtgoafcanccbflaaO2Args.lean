/- Pieces and bools that came in together. -/
import Derived.Test.YtgoafcanccbflaaO1Least
set_option linter.unusedVariables false
set_option linter.unusedSimpArgs false
set_option maxRecDepth 100000
namespace Go.Proofs.Ytgoafcanccbflaa.lay
open Go.Ab Go.ChangeShapes Go.WideShapes Go.ChangeAt Go.RowKit

/-- A slice that came in, its cells read. -/
def SlIn (W : World) (v : Value) (n : Nat) (cs : List Value) : Prop :=
  v = .slice none 0 0 ∧ n = 0 ∨ ∃ a cap, v = .slice (some a) n cap ∧ n ≤ cap ∧ cap < UNK ∧ (0 < n → a.block < W.heap.size) ∧ ∀ (j : Nat) u, cs[j]? = some u → W.cell? (a.add j) = some u

/-- Bools that came in. -/
theorem boolsOf {H : Type} {enc : TypeId × Value → H} {W : World} {fuel : Nat} {v : Value} {x : DataW H × List MemPlace} (h : DataW.trod enc Try.prog W 0 (fun _ => true) true fuel 25 v.cells.toList = some x) (hv : ∃ a len cap, v = .slice a len cap) :
    ∃ l : List Bool, SlIn W v l.length (bools l) := by
  obtain ⟨a0, len0, cap0, rfl⟩ := hv
  rcases Deep.open_slice1 Try.underlying25 (by kernel_rfl) h with ⟨hcs, _⟩ | ⟨a, len, cap, m, n, Vv, D, Pl, hcs, _, hlc, hcm, hm, _, hel⟩
  · exact ⟨[], .inl ⟨by simpa [Value.cells] using hcs, rfl⟩⟩
  · have hv : Value.slice a0 len0 cap0 = .slice (some a) len cap := by simpa [Value.cells] using hcs
    have hm : m = cap := by simpa using hm
    have hex : ∀ i, i < len → ∃ b : Bool, W.cell? (a.add i) = some (.bool b) := fun i hi => by
      obtain ⟨hc, ht⟩ := hel i (by omega)
      obtain ⟨b, hb, _⟩ := DataW.trod_bool Try.underlying4 ht
      exact ⟨b, by rw [hc]; simpa using hb⟩
    obtain ⟨f, hf⟩ := Deep.choose_lt hex
    refine ⟨(List.range len).map f, .inr ⟨a, cap, by rw [hv]; simp, by simpa using hlc, by unfold maxLen at hcm; unfold UNK; omega, fun hlen => ?_, fun j u hj => ?_⟩⟩
    · have := World.block_lt_of_cell? W _ (hf 0 (by simpa using hlen))
      rwa [Ab.block_add] at this
    · have hjl : j < len := by have := (List.getElem?_eq_some_iff.1 hj).1; simpa [bools] using this
      have e := bools_get (l := (List.range len).map f) (i := j) (by simpa using hjl)
      rw [hj] at e
      cases e
      rw [hf j hjl]
      simp [List.getD, hjl]

theorem plain_P (l : List Pc) : ∀ u ∈ cellsP l, plain u = true := fun u hm => by
  simp only [cellsP, List.mem_flatMap, Pc.cells] at hm
  obtain ⟨p, _, hp⟩ := hm
  simp only [List.mem_cons, List.mem_nil_iff, or_false] at hp
  rcases hp with rfl | rfl | rfl | rfl | rfl | rfl | rfl <;> rfl
theorem plain_B (l : List Bool) : ∀ u ∈ bools l, plain u = true := fun u hm => by
  simp only [bools, List.mem_map] at hm
  obtain ⟨b, _, rfl⟩ := hm
  rfl

/-- One more slice that came in. -/
theorem simAdd {W : World} {v : Value} {n : Nat} {cs : List Value} (h : SlIn W v n cs) (hp : ∀ u ∈ cs, plain u = true) (e : TypeId) {ρ : Ren} {H : Heap} (hs : Sim Try.prog ρ H W) (hw : H.Wf) (hro : AllRo H) :
    ∃ (u : Value) (ρ' : Ren) (H' : Heap), Sub ρ ρ' ∧ Ext H H' ∧ Sim Try.prog ρ' H' W ∧ H'.Wf ∧ AllRo H' ∧ V ρ' u v ∧ IsSl H' u n cs := by
  have hn := hs.none_next
  rcases h with ⟨rfl, rfl⟩ | ⟨a, cap, rfl, hlc, hcu, hlt, hc⟩
  · exact ⟨.slice none 0 0, ρ, H, fun _ _ h => h, .refl _, hs, hw, hro, .same _ rfl, none, 0, rfl, fun h => by simp at h⟩
  · by_cases hl : 0 < n
    · exact ⟨.slice (some ⟨H.next, 0, none⟩) n cap, _, _, sub_ext ⟨a, 0, 0⟩ hn, (Ext.refl H).push _, hs.addRo hro e (hlt hl) (fun j u hj => ⟨u, hc j u hj, .same u (hp _ (List.mem_of_getElem? hj))⟩), hw.push _, hro.push _ _, V.sliceIn (ext_same _ _ _) hlc hcu, _, _, rfl, fun _ => ⟨_, e, true, rfl, by rw [Heap.get_push, if_pos rfl]⟩⟩
    · exact ⟨.slice (some ⟨H.next, 0, none⟩) n cap, _, _, sub_ext ⟨a, 0, 0⟩ hn, (Ext.refl H).up (by omega), hs.addDead hw a, hw.up (by omega), hro.up _, V.sliceIn (ext_same _ _ _) hlc hcu, _, _, rfl, fun h => absurd h hl⟩
end Go.Proofs.Ytgoafcanccbflaa.lay
