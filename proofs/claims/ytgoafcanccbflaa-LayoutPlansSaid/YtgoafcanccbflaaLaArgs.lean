/- Pieces that came in, and lists of bools. -/
import Derived.Test.YtgoafcanccbflaaL9Kit
import Derived.Test.YtgoafcanccbflaaAbArgs
import Derived.ProofKit
import Derived.OpenShut
import Derived.ChangeOld
import Derived.Deep.Slices
set_option linter.unusedVariables false
set_option linter.unusedSimpArgs false
set_option maxRecDepth 100000
namespace Go.Proofs.Ytgoafcanccbflaa.lay
open Go.Ab Go.ChangeShapes Go.WideShapes Go.ChangeAt Go.RowKit

theorem i64_of_wf {z : Int} (h : (Lit.int .i64 z).wf = true) : I64 z := by
  have := bounds_i64 h
  unfold I64; omega

/-- One piece, as it reads. -/
theorem pieceOf {H : Type} {enc : TypeId × Value → H} {W : World} {base : Nat} {spare : Nat → Bool} {held : Bool} {n : Nat} {cs : List Value} {x : DataW H × List MemPlace} (h : DataW.trod enc Try.prog W base spare held n 38 cs = some x) : ∃ p : Pc, p.ok ∧ cs = p.cells := by
  obtain ⟨xs, m, rfl, hx, hcl, hxl, hf⟩ := DataW.trod_struct Try.underlying38 h
  have hc7 : cs.length = 7 := by rw [hcl]; kernel_rfl
  have hone : Try.prog.cellsOf 3 = 1 := by kernel_rfl
  have fld : ∀ (i : Nat), i < 7 → ∃ z, cs[i]? = some (.int .i64 z) ∧ I64 z := fun i hi => by
    have key : ∀ (f : Field), f.type = 3 → f.offset = i → DataW.trod enc Try.prog W base spare held m f.type ((cs.drop f.offset).take (Try.prog.cellsOf f.type)) = xs[i]? → ∃ z, cs[i]? = some (.int .i64 z) ∧ I64 z := fun f ht ho hr => by
      have hxi : i < xs.length := by rw [hxl]; exact hi
      rw [ht, ho, hone, List.getElem?_eq_getElem hxi] at hr
      obtain ⟨z, hz, _, hw⟩ := DataW.trod_int Try.underlying3 hr
      refine ⟨z, ?_, i64_of_wf hw⟩
      have : ((cs.drop i).take 1)[0]? = some (.int .i64 z) := by rw [hz]; rfl
      simpa [List.getElem?_take, List.getElem?_drop] using this
    rcases i with _ | _ | _ | _ | _ | _ | _ | i
    · exact key _ rfl rfl (hf 0 _ rfl)
    · exact key _ rfl rfl (hf 1 _ rfl)
    · exact key _ rfl rfl (hf 2 _ rfl)
    · exact key _ rfl rfl (hf 3 _ rfl)
    · exact key _ rfl rfl (hf 4 _ rfl)
    · exact key _ rfl rfl (hf 5 _ rfl)
    · exact key _ rfl rfl (hf 6 _ rfl)
    · omega
  obtain ⟨z0, e0, w0⟩ := fld 0 (by decide)
  obtain ⟨z1, e1, w1⟩ := fld 1 (by decide)
  obtain ⟨z2, e2, w2⟩ := fld 2 (by decide)
  obtain ⟨z3, e3, w3⟩ := fld 3 (by decide)
  obtain ⟨z4, e4, w4⟩ := fld 4 (by decide)
  obtain ⟨z5, e5, w5⟩ := fld 5 (by decide)
  obtain ⟨z6, e6, w6⟩ := fld 6 (by decide)
  refine ⟨⟨z0, z1, z2, z3, z4, z5, z6⟩, ⟨w0, w1, w2, w3, w4, w5, w6⟩, ?_⟩
  apply List.ext_getElem?
  intro i
  rcases i with _ | _ | _ | _ | _ | _ | _ | i
  · exact e0
  · exact e1
  · exact e2
  · exact e3
  · exact e4
  · exact e5
  · exact e6
  · rw [List.getElem?_eq_none (by omega), List.getElem?_eq_none (by rw [cells_length]; omega)]

/-- Pieces that came in. -/
theorem piecesOf {H : Type} {enc : TypeId × Value → H} {W : World} {fuel : Nat} {v : Value} {x : DataW H × List MemPlace} (h : DataW.trod enc Try.prog W 0 (fun _ => true) true fuel 22 v.cells.toList = some x) (hv : ∃ a len cap, v = .slice a len cap) :
    v = .slice none 0 0 ∨ ∃ a len cap, ∃ l : List Pc, v = .slice (some a) len cap ∧ len ≤ cap ∧ cap < UNK ∧ l.length = len ∧ (∀ p ∈ l, p.ok) ∧ (0 < len → a.block < W.heap.size) ∧ ∀ (j : Nat) u, (cellsP l)[j]? = some u → W.cell? (a.add j) = some u := by
  obtain ⟨a0, len0, cap0, rfl⟩ := hv
  have h7 : Try.prog.cellsOf 38 = 7 := by kernel_rfl
  rcases Deep.open_slice Try.underlying22 h with ⟨hcs, _⟩ | ⟨a, len, cap, m, n, D, Pl, hcs, _, hlc, hcm, hm, _, hel⟩
  · left
    simpa [Value.cells] using hcs
  · right
    have hv : Value.slice a0 len0 cap0 = .slice (some a) len cap := by simpa [Value.cells] using hcs
    have hm : m = cap := by simpa using hm
    have hex : ∀ i, i < len → ∃ p : Pc, p.ok ∧ ∀ j, j < 7 → W.cell? (a.add (i * 7 + j)) = p.cells[j]? := fun i hi => by
      obtain ⟨cs', hc, ht⟩ := hel i (by omega)
      obtain ⟨p, hp, rfl⟩ := pieceOf ht
      rw [h7] at hc
      obtain ⟨_, hg⟩ := cells_get hc
      exact ⟨p, hp, fun j hj => by rw [← hg j hj, Ab.add_add]⟩
    have : Inhabited Pc := ⟨⟨0, 0, 0, 0, 0, 0, 0⟩⟩
    obtain ⟨f, hf⟩ := Deep.choose_lt hex
    refine ⟨a, len, cap, (List.range len).map f, hv, hlc, by unfold maxLen at hcm; unfold UNK; omega, by simp, fun p hp => ?_, fun hlen => ?_, fun j u hj => ?_⟩
    · obtain ⟨i, hi, rfl⟩ := List.mem_map.1 hp
      exact (hf i (List.mem_range.1 hi)).1
    · have := (hf 0 hlen).2 0 (by decide)
      rw [cg0] at this
      have := World.block_lt_of_cell? W _ this
      rwa [Ab.block_add] at this
    · have hjl : j < (cellsP ((List.range len).map f)).length := (List.getElem?_eq_some_iff.1 hj).1
      rw [cellsP_length] at hjl
      simp at hjl
      have hi : j / 7 < len := by omega
      have hp : ((List.range len).map f)[j / 7]? = some (f (j / 7)) := by simp [hi]
      have e := cellsP_cell _ (j / 7) (j % 7) _ hp (by omega)
      have ej : j / 7 * 7 + j % 7 = j := by omega
      rw [ej, hj] at e
      have := (hf (j / 7) hi).2 (j % 7) (by omega)
      rw [ej, ← e] at this
      exact this

/-- What came in, as the abstract heap has it. -/
theorem simOf {W : World} {v : Value} (h : v = .slice none 0 0 ∨ ∃ a len cap, ∃ l : List Pc, v = .slice (some a) len cap ∧ len ≤ cap ∧ cap < UNK ∧ l.length = len ∧ (∀ p ∈ l, p.ok) ∧ (0 < len → a.block < W.heap.size) ∧ ∀ (j : Nat) u, (cellsP l)[j]? = some u → W.cell? (a.add j) = some u) :
    ∃ (l : List Pc) (u : Value) (ρ : Ren) (H : Heap), (∀ p ∈ l, p.ok) ∧ Sim Try.prog ρ H W ∧ H.Wf ∧ AllRo H ∧ V ρ u v ∧ IsSl H u l.length (cellsP l) := by
  rcases h with rfl | ⟨a, len, cap, l, rfl, hlc, hcu, rfl, hok, hlt, hc⟩
  · exact ⟨[], .slice none 0 0, globR _, H0 _, fun p hp => by simp at hp, sim_H0 W, wf_H0, allRo_H0, .same _ rfl, none, 0, rfl, fun h => by simp at h⟩
  · have h0 := sim_H0 (P := Try.prog) W
    by_cases hl : 0 < l.length
    · refine ⟨l, .slice (some ⟨(H0 Try.prog).next, 0, none⟩) l.length cap, _, _, hok, h0.addRo allRo_H0 38 (hlt hl) (fun j u hj => ⟨u, hc j u hj, ?_⟩), wf_H0.push _, allRo_H0.push _ _, V.sliceIn (ext_same _ _ _) hlc hcu, _, _, rfl, fun _ => ⟨_, 38, true, rfl, by rw [Heap.get_push, if_pos rfl]⟩⟩
      have : plain u = true := by
        have hm := List.mem_of_getElem? hj
        simp only [cellsP, List.mem_flatMap, Pc.cells] at hm
        obtain ⟨p, _, hp⟩ := hm
        simp only [List.mem_cons, List.mem_nil_iff, or_false] at hp
        rcases hp with rfl | rfl | rfl | rfl | rfl | rfl | rfl <;> rfl
      exact .same u this
    · refine ⟨l, .slice (some ⟨(H0 Try.prog).next, 0, none⟩) l.length cap, _, _, hok, h0.addDead wf_H0 a, wf_H0.up (by omega), allRo_H0.up _, V.sliceIn (ext_same _ _ _) hlc hcu, _, _, rfl, fun h => absurd h hl⟩
end Go.Proofs.Ytgoafcanccbflaa.lay
