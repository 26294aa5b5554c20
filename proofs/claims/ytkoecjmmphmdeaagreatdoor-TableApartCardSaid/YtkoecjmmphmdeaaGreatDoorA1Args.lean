/- Keys that came in. -/
import Derived.Test.YtkoecjmmphmdeaaGreatDoorK9Match
import Derived.Test.YtkoecjmmphmdeaaGreatDoorAbH
import Derived.ProofKit
import Derived.OpenShut
import Derived.ChangeOld
import Derived.Deep.Slices
set_option linter.unusedVariables false
set_option linter.unusedSimpArgs false
set_option maxRecDepth 100000
namespace Go.Proofs.YtkoecjmmphmdeaaGreatDoor.code
open Go.Ab Go.ChangeShapes Go.WideShapes Go.ChangeAt Go.RowKit

theorem i64_of_wf {z : Int} (h : (Lit.int .i64 z).wf = true) : I64 z := by
  have := bounds_i64 h
  unfold I64; omega
theorem tabs_ro : AllRo (tabHeap prog.globals.size tab.tabs) := fun id b h => by
  obtain ⟨t, _, _, rfl⟩ := tabHeap_get h
  rfl
theorem V_key (ρ : Ren) (k : Ky) : V ρ (.agg k.cells.toArray) (.agg k.cells.toArray) := by
  refine .agg _ _ rfl fun j x x' h h' => ?_
  rw [h] at h'
  cases h'
  refine .same _ ?_
  have hm := Array.mem_of_getElem? h
  simp only [Ky.cells, List.mem_toArray, List.mem_cons, List.not_mem_nil, or_false] at hm
  rcases hm with rfl | rfl | rfl | rfl | rfl | rfl <;> rfl
theorem keyIn {H : Type} {enc : TypeId × Value → H} {W : World} {base base' : Nat} {spare : Nat → Bool} {held : Bool} {r : Reach} {v : Value} {d : DataW H} {p : List MemPlace} (hv : Value.okWide Tryz.prog W r base 23 v) (h : ∃ n, DataW.trod enc Tryz.prog W base' spare held n 23 v.cells.toList = some (d, p)) : ∃ k : Ky, I64 k.code ∧ v = .agg k.cells.toArray := by
  obtain ⟨n, h⟩ := h
  obtain ⟨cs, rfl, hsz⟩ := okWide_struct Tryz.underlying23 hv
  have hcs : (Value.agg cs).cells.toList = cs.toList := rfl
  rw [hcs] at h
  obtain ⟨xs, m, e, hx, hcl, hxl, hf⟩ := DataW.trod_struct Tryz.underlying23 h
  have hc6 : cs.toList.length = 6 := by rw [hcl]; kernel_rfl
  have hone : Tryz.prog.cellsOf 3 = 1 := by kernel_rfl
  have honeb : Tryz.prog.cellsOf 4 = 1 := by kernel_rfl
  have fld : ∀ (i : Nat), 1 ≤ i → i < 6 → ∃ z, cs.toList[i]? = some (.int .i64 z) ∧ I64 z := fun i hi1 hi => by
    have key : ∀ (f : Field), f.type = 3 → f.offset = i → DataW.trod enc Tryz.prog W base' spare held m f.type ((cs.toList.drop f.offset).take (Tryz.prog.cellsOf f.type)) = xs[i]? → ∃ z, cs.toList[i]? = some (.int .i64 z) ∧ I64 z := fun f ht ho hr => by
      have hxi : i < xs.length := by rw [hxl]; exact hi
      rw [ht, ho, hone, List.getElem?_eq_getElem hxi] at hr
      obtain ⟨z, hz, _, hw⟩ := DataW.trod_int Tryz.underlying3 hr
      refine ⟨z, ?_, i64_of_wf hw⟩
      have : ((cs.toList.drop i).take 1)[0]? = some (.int .i64 z) := by rw [hz]; rfl
      simpa [List.getElem?_take, List.getElem?_drop] using this
    rcases i with _ | _ | _ | _ | _ | _ | i
    · omega
    · exact key _ rfl rfl (hf 1 _ rfl)
    · exact key _ rfl rfl (hf 2 _ rfl)
    · exact key _ rfl rfl (hf 3 _ rfl)
    · exact key _ rfl rfl (hf 4 _ rfl)
    · exact key _ rfl rfl (hf 5 _ rfl)
    · omega
  have fld0 : ∃ b, cs.toList[0]? = some (.bool b) := by
    have key : ∀ (f : Field), f.type = 4 → f.offset = 0 → DataW.trod enc Tryz.prog W base' spare held m f.type ((cs.toList.drop f.offset).take (Tryz.prog.cellsOf f.type)) = xs[0]? → ∃ b, cs.toList[0]? = some (.bool b) := fun f ht ho hr => by
      have hxi : 0 < xs.length := by rw [hxl]; decide
      rw [ht, ho, honeb, List.getElem?_eq_getElem hxi] at hr
      obtain ⟨b, hz, _⟩ := DataW.trod_bool Tryz.underlying4 hr
      refine ⟨b, ?_⟩
      have : ((cs.toList.drop 0).take 1)[0]? = some (.bool b) := by rw [hz]; rfl
      simpa [List.getElem?_take, List.getElem?_drop] using this
    exact key _ rfl rfl (hf 0 _ rfl)
  obtain ⟨z0, e0⟩ := fld0
  obtain ⟨z1, e1, w1⟩ := fld 1 (by decide) (by decide)
  obtain ⟨z2, e2, w2⟩ := fld 2 (by decide) (by decide)
  obtain ⟨z3, e3, w3⟩ := fld 3 (by decide) (by decide)
  obtain ⟨z4, e4, w4⟩ := fld 4 (by decide) (by decide)
  obtain ⟨z5, e5, w5⟩ := fld 5 (by decide) (by decide)
  refine ⟨⟨z0, z1, z2, z3, z4, z5⟩, w5, ?_⟩
  have : cs.toList = (⟨z0, z1, z2, z3, z4, z5⟩ : Ky).cells := by
    apply List.ext_getElem?
    intro i
    rcases i with _ | _ | _ | _ | _ | _ | i
    · exact e0
    · exact e1
    · exact e2
    · exact e3
    · exact e4
    · exact e5
    · rw [List.getElem?_eq_none (by omega), List.getElem?_eq_none (by show 6 ≤ _; omega)]
  rw [← this]
end Go.Proofs.YtkoecjmmphmdeaaGreatDoor.code
