/- Nodes that came in. -/
import Derived.Test.YtbkbdnlfkahaaaaGreatDoorA0Args
import Derived.Test.YtbkbdnlfkahaaaaGreatDoorLibG
set_option linter.unusedVariables false
set_option linter.unusedSimpArgs false
set_option maxRecDepth 100000
namespace Go.Proofs.YtbkbdnlfkahaaaaGreatDoor.code
open Go.Ab Go.ChangeShapes Go.WideShapes Go.ChangeAt Go.RowKit

def NodeTy (te ti ts : Nat) : Prop := prog.underlying ti = some (.int .i64) ∧ prog.underlying ts = some .string ∧ prog.cellsOf te = 5 ∧ prog.cellsOf ti = 1 ∧ prog.cellsOf ts = 1 ∧ ∃ fs : Array Field, prog.underlying te = some (.struct fs) ∧ fs.size = 5 ∧ ∀ i, i < 5 → ∃ f, fs[i]? = some f ∧ f.offset = i ∧ f.type = if i = 2 then ts else ti
def NodesIn (W : World) (v : Value) : Prop := v = .slice none 0 0 ∨ ∃ a len cap, ∃ l : List Nd, v = .slice (some a) len cap ∧ len ≤ cap ∧ cap < UNK ∧ l.length = len ∧ (0 < len → a.block < W.heap.size) ∧ ∀ (j : Nat) u, (cellsN l)[j]? = some u → W.cell? (a.add j) = some u
theorem cellsN_cell {l : List Nd} {i j : Nat} {p : Nd} (h : l[i]? = some p) (hj : j < 5) : (cellsN l)[i * 5 + j]? = p.cells[j]? := by
  have := cellsN_at l i p h
  rw [← this, List.getElem?_take, if_pos hj, List.getElem?_drop]
theorem nodeOf {H : Type} {enc : TypeId × Value → H} {W : World} {base : Nat} {spare : Nat → Bool} {held : Bool} {n te ti ts : Nat} {cs : List Value} {x : DataW H × List MemPlace} (ht : NodeTy te ti ts) (h : DataW.trod enc prog W base spare held n te cs = some x) : ∃ p : Nd, cs = p.cells := by
  obtain ⟨hi, hs, h5, h1, h1', fs, hu, hsz, hf0⟩ := ht
  obtain ⟨xs, m, rfl, hx, hcl, hxl, hf⟩ := DataW.trod_struct hu h
  rw [h5] at hcl
  rw [hsz] at hxl
  have one : ∀ {i : Nat} {w : Value}, i < 5 → (cs.drop i).take 1 = [w] → cs[i]? = some w := fun {i w} hi he => by
    have : ((cs.drop i).take 1)[0]? = some w := by rw [he]; rfl
    simpa [List.getElem?_take, List.getElem?_drop] using this
  have num : ∀ i, i < 5 → i ≠ 2 → ∃ z, cs[i]? = some (.int .i64 z) := fun i h5 h2 => by
    obtain ⟨f, hfi, ho, hft⟩ := hf0 i h5
    have hxi : i < xs.length := by omega
    have hr := hf i f hfi
    rw [hft, if_neg h2, ho, h1, List.getElem?_eq_getElem hxi] at hr
    obtain ⟨z, hz, _, hw⟩ := DataW.trod_int hi hr
    exact ⟨z, one h5 hz⟩
  have str : ∃ s, cs[2]? = some (.string s) := by
    obtain ⟨f, hfi, ho, hft⟩ := hf0 2 (by decide)
    have hxi : 2 < xs.length := by omega
    have hr := hf 2 f hfi
    rw [hft, if_pos rfl, ho, h1', List.getElem?_eq_getElem hxi] at hr
    obtain ⟨z, hz, _, hw⟩ := DataW.trod_string hs hr
    exact ⟨z, one (by decide) hz⟩
  obtain ⟨z0, e0⟩ := num 0 (by decide) (by decide)
  obtain ⟨z1, e1⟩ := num 1 (by decide) (by decide)
  obtain ⟨z2, e2⟩ := str
  obtain ⟨z3, e3⟩ := num 3 (by decide) (by decide)
  obtain ⟨z4, e4⟩ := num 4 (by decide) (by decide)
  refine ⟨⟨z0, z1, z2, z3, z4⟩, ?_⟩
  apply List.ext_getElem?
  intro i
  rcases i with _ | _ | _ | _ | _ | i
  · exact e0
  · exact e1
  · exact e2
  · exact e3
  · exact e4
  · rw [List.getElem?_eq_none (by omega), List.getElem?_eq_none (by rw [ndcells_length]; omega)]
theorem noDesOf {H : Type} {enc : TypeId × Value → H} {W : World} {fuel tb te ti ts : Nat} {v : Value} {x : DataW H × List MemPlace} (hsl : prog.underlying tb = some (.slice te)) (ht : NodeTy te ti ts)
    (h : DataW.trod enc prog W 0 (fun _ => true) true fuel tb v.cells.toList = some x) (hv : ∃ a len cap, v = .slice a len cap) : NodesIn W v := by
  obtain ⟨a0, len0, cap0, rfl⟩ := hv
  rcases Deep.open_slice hsl h with ⟨hcs, _⟩ | ⟨a, len, cap, m, n, D, Pl, hcs, _, hlc, hcm, hm, _, hel⟩
  · left
    simpa [Value.cells] using hcs
  · right
    have hv : Value.slice a0 len0 cap0 = .slice (some a) len cap := by simpa [Value.cells] using hcs
    have hm : m = cap := by simpa using hm
    have h5 : prog.cellsOf te = 5 := ht.2.2.1
    have hex : ∀ i, i < len → ∃ p : Nd, ∀ j, j < 5 → W.cell? (a.add (i * 5 + j)) = p.cells[j]? := fun i hi => by
      obtain ⟨cs', hc, hr⟩ := hel i (by omega)
      obtain ⟨p, rfl⟩ := nodeOf ht hr
      rw [h5] at hc
      obtain ⟨_, hg⟩ := cells_get hc
      exact ⟨p, fun j hj => by rw [← hg j hj, add_add]⟩
    have : Inhabited Nd := ⟨⟨0, 0, ⟨#[]⟩, 0, 0⟩⟩
    obtain ⟨f, hf⟩ := Deep.choose_lt hex
    refine ⟨a, len, cap, (List.range len).map f, hv, hlc, by unfold maxLen at hcm; unfold UNK; omega, by simp, fun hlen => ?_, fun j u hj => ?_⟩
    · have := (hf 0 hlen) 0 (by decide)
      rw [nd0] at this
      have := World.block_lt_of_cell? W _ this
      rwa [Ab.block_add] at this
    · have hjl : j < (cellsN ((List.range len).map f)).length := (List.getElem?_eq_some_iff.1 hj).1
      rw [cellsN_length] at hjl
      simp at hjl
      have hi : j / 5 < len := by omega
      have hp : ((List.range len).map f)[j / 5]? = some (f (j / 5)) := by simp [hi]
      have e := cellsN_cell hp (show j % 5 < 5 by omega)
      have ej : j / 5 * 5 + j % 5 = j := by omega
      rw [ej, hj] at e
      have := (hf (j / 5) hi) (j % 5) (by omega)
      rw [ej, ← e] at this
      exact this
theorem simNodes {W : World} {v : Value} {ρ0 : Ren} {H0 : Heap} (te : Nat) (hs : Sim prog ρ0 H0 W) (hw : H0.Wf) (hro : AllRo H0) (h : NodesIn W v) :
    ∃ (l : List Nd) (u : Value) (ρ : Ren) (H : Heap), Sim prog ρ H W ∧ H.Wf ∧ AllRo H ∧ Ext H0 H ∧ V ρ u v ∧ NdsAt H u l := by
  rcases h with rfl | ⟨a, len, cap, l, rfl, hlc, hcu, rfl, hlt, hc⟩
  · exact ⟨[], .slice none 0 0, ρ0, H0, hs, hw, hro, .refl _, .same _ rfl, none, 0, rfl, fun h => absurd h (Nat.lt_irrefl 0)⟩
  · by_cases hl : 0 < l.length
    · refine ⟨l, .slice (some ⟨H0.next, 0, none⟩) l.length cap, _, H0.push (.cells (cellsN l) te true), hs.addRo hro te (hlt hl) (fun j u hj => ⟨_, hc j u hj, ?_⟩), hw.push _, hro.push _ _, (Ext.refl H0).push _, V.sliceIn (ext_same _ _ _) hlc hcu, _, _, rfl, fun _ => ⟨_, te, true, rfl, by rw [Heap.get_push, if_pos rfl]⟩⟩
      have : plain u = true := by
        have hm := List.mem_of_getElem? hj
        simp only [cellsN, List.mem_flatMap, Nd.cells] at hm
        obtain ⟨p, _, hp⟩ := hm
        simp only [List.mem_cons, List.mem_nil_iff, or_false] at hp
        rcases hp with rfl | rfl | rfl | rfl | rfl <;> rfl
      exact .same u this
    · refine ⟨l, .slice (some ⟨H0.next, 0, none⟩) l.length cap, _, H0.up (H0.next + 1), hs.addDead hw a, hw.up (by omega), hro.up _, (Ext.refl H0).up (by omega), V.sliceIn (ext_same _ _ _) hlc hcu, _, _, rfl, fun h => absurd h hl⟩
end Go.Proofs.YtbkbdnlfkahaaaaGreatDoor.code
