/- Texts that came in. -/
import Derived.Test.YthoanamkoigjeaaGreatDoorX3Tab
import Derived.Test.YthoanamkoigjeaaGreatDoorAbH
import Derived.ProofKit
import Derived.OpenShut
import Derived.ChangeOld
import Derived.Deep.Slices
set_option linter.unusedVariables false
set_option linter.unusedSimpArgs false
set_option maxRecDepth 100000
namespace Go.Proofs.YthoanamkoigjeaaGreatDoor.code
open Go.Ab Go.ChangeShapes Go.WideShapes Go.ChangeAt Go.RowKit

def StrsIn (W : World) (v : Value) : Prop := v = .slice none 0 0 ∨ ∃ a len cap, ∃ l : List (List UInt8), v = .slice (some a) len cap ∧ len ≤ cap ∧ cap < UNK ∧ l.length = len ∧ (0 < len → a.block < W.heap.size) ∧ ∀ (j : Nat) b, l[j]? = some b → W.cell? (a.add j) = some (.string (mkS b))
theorem stRsOf {H : Type} {enc : TypeId × Value → H} {W : World} {fuel tb te : Nat} {v : Value} {x : DataW H × List MemPlace} (hs : prog.underlying tb = some (.slice te)) (he : prog.underlying te = some .string) (hc1 : prog.cellsOf te = 1)
    (h : DataW.trod enc prog W 0 (fun _ => true) true fuel tb v.cells.toList = some x) (hv : ∃ a len cap, v = .slice a len cap) : StrsIn W v := by
  obtain ⟨a0, len0, cap0, rfl⟩ := hv
  rcases Deep.open_slice hs h with ⟨hcs, _⟩ | ⟨a, len, cap, m, n, D, Pl, hcs, _, hlc, hcm, hm, _, hel⟩
  · left
    simpa [Value.cells] using hcs
  · right
    have hv : Value.slice a0 len0 cap0 = .slice (some a) len cap := by simpa [Value.cells] using hcs
    have hm : m = cap := by simpa using hm
    have hex : ∀ i, i < len → ∃ z : List UInt8, True ∧ W.cell? (a.add i) = some (.string (mkS z)) := fun i hi => by
      obtain ⟨cs', hc, ht⟩ := hel i (by omega)
      obtain ⟨z, hz, _, hw⟩ := DataW.trod_string he ht
      rw [hc1, Nat.mul_one] at hc
      obtain ⟨_, hg⟩ := cells_get hc
      have h0 := hg 0 (by decide)
      rw [add_add, Nat.add_zero] at h0
      refine ⟨bl z, trivial, ?_⟩
      rw [h0, hz, mkS_bl]
      rfl
    obtain ⟨f, hf⟩ := Deep.choose_lt hex
    refine ⟨a, len, cap, (List.range len).map f, hv, hlc, by unfold maxLen at hcm; unfold UNK; omega, by simp, fun hlen => ?_, fun j u hj => ?_⟩
    · have := (hf 0 hlen).2
      have := World.block_lt_of_cell? W _ this
      rwa [Ab.block_add] at this
    · rw [List.getElem?_map] at hj
      obtain ⟨y, hy, rfl⟩ := Option.map_eq_some_iff.1 hj
      have hlt := (List.getElem?_eq_some_iff.1 hy).1
      rw [List.getElem?_range (by simpa using hlt)] at hy
      cases hy
      exact (hf j (by simpa using hlt)).2
theorem simStrs {W : World} {v : Value} {ρ0 : Ren} {H0 : Heap} (hs : Sim prog ρ0 H0 W) (hw : H0.Wf) (hro : AllRo H0) (h : StrsIn W v) :
    ∃ (l : List (List UInt8)) (u : Value) (ρ : Ren) (H : Heap), Sim prog ρ H W ∧ H.Wf ∧ AllRo H ∧ Ext H0 H ∧ V ρ u v ∧ IsSl H u l.length (strs l) := by
  rcases h with rfl | ⟨a, len, cap, l, rfl, hlc, hcu, rfl, hlt, hc⟩
  · exact ⟨[], .slice none 0 0, ρ0, H0, hs, hw, hro, .refl _, .same _ rfl, none, 0, rfl, fun h => absurd h (Nat.lt_irrefl 0)⟩
  · by_cases hl : 0 < l.length
    · refine ⟨l, .slice (some ⟨H0.next, 0, none⟩) l.length cap, _, H0.push (.cells (strs l) 9 true), hs.addRo hro 9 (hlt hl) (fun j u hj => ?_), hw.push _, hro.push _ _, (Ext.refl H0).push _, V.sliceIn (ext_same _ _ _) hlc hcu, _, _, rfl, fun _ => ?_⟩
      · unfold strs at hj
        rw [List.getElem?_map] at hj
        obtain ⟨y, hy, rfl⟩ := Option.map_eq_some_iff.1 hj
        exact ⟨_, hc j y hy, .same _ rfl⟩
      · exact ⟨H0.next, 9, true, rfl, by rw [Heap.get_push, if_pos rfl]⟩
    · refine ⟨l, .slice (some ⟨H0.next, 0, none⟩) l.length cap, _, H0.up (H0.next + 1), hs.addDead hw a, hw.up (by omega), hro.up _, (Ext.refl H0).up (by omega), V.sliceIn (ext_same _ _ _) hlc hcu, _, _, rfl, fun h => absurd h hl⟩
end Go.Proofs.YthoanamkoigjeaaGreatDoor.code
