/- What the rows' lists give: strings.asciiSpace's cells; a world that holds all listed variables. -/
import Derived.Test.YtfdeejmibgpbhaaDoorCards
import Derived.Test.YtfdeejmibgpbhaaDoorTie
import Derived.Test.YtfdeejmibgpbhaaDoorS0Sums
import Derived.WalkKit
import Derived.ProofKit
import Derived.OpenShut
import Derived.Deep.DeepHandedRow
import Derived.Deep.DeepLaidRun
import Derived.Lib.LaidTab
import Derived.Lib.Space
import Derived.Lib.SpaceR
namespace Go.Proofs.YtfdeejmibgpbhaaDoor.bits
open Go.ChangeShapes Go.WideShapes Go.ChangeAt Go.RowKit

theorem own : ownKnob Tryd.prog.godebug = none := by kernel_rfl
theorem gTab : Tryd.prog.globalNamed "strings.asciiSpace" = some 0 := by kernel_rfl
theorem gTabType : (Tryd.prog.globals[0]?).map (·.type) = some 59 := by kernel_rfl
theorem cells59 : Tryd.prog.cellsOf 59 = 256 := by kernel_rfl
theorem cells5 : Tryd.prog.cellsOf 5 = 1 := by kernel_rfl

theorem tail {P : Program} {w : World} {x : String × DataW Unit} {l : List (String × DataW Unit)} {ps : List MemPlace} (h : DataW.LaidVars P w (x :: l) ps) : ∃ q, DataW.LaidVars P w l q := by
  obtain ⟨g', t', cs, fuel, p, q, hg', ht', hvar, hd, h1, _⟩ := h
  exact ⟨q, h1⟩

theorem tabOf {W : World} {d : DataW Unit} {rest : List (String × DataW Unit)} {ps : List MemPlace} (hd0 : d = Lib.tabData .u8 Lib.asciiSpaceTab)
    (h : DataW.LaidVars Tryd.prog W (("strings.asciiSpace", d) :: rest) ps) : Lib.TabIs Tryd.prog W "strings.asciiSpace" .u8 Lib.asciiSpaceTab := by
  subst hd0
  obtain ⟨g', t', cs, fuel, p, q, hg', ht', hvar, hd, _, _⟩ := h
  obtain rfl := Option.some.inj (gTab.symm.trans hg')
  obtain rfl := Option.some.inj (gTabType.symm.trans ht')
  unfold Lib.TabIs
  rw [hvar, ← Lib.cells_of_tab Tryd.underlying59 Tryd.underlying5 cells5 cells59 hd]

theorem asciiData : Rows.laid_strings_asciiSpace (H := Unit) = Lib.tabData .u8 Lib.asciiSpaceTab := by kernel_rfl
theorem asciiList : ascii = Lib.asciiSpaceTab.map (fun z => Value.int .u8 z) := by kernel_rfl

/-- All six rows list the same. -/
theorem table {W : World} (h : laidMetH Tryd.prog Rows.bitsRowsRow.laid W) : Lib.TabIs Tryd.prog W "strings.asciiSpace" .u8 Lib.asciiSpaceTab := by
  have h : laidMet Tryd.prog Rows.bitsRowsRow.laid W := h
  obtain ⟨ps, h0, _⟩ := h
  obtain ⟨_, h1⟩ := tail h0
  obtain ⟨_, h2⟩ := tail h1
  obtain ⟨_, h3⟩ := tail h2
  obtain ⟨_, h4⟩ := tail h3
  obtain ⟨_, h5⟩ := tail h4
  obtain ⟨_, h6⟩ := tail h5
  obtain ⟨_, h7⟩ := tail h6
  exact tabOf asciiData h7

theorem cellOk {W : World} (h : Lib.TabIs Tryd.prog W "strings.asciiSpace" .u8 Lib.asciiSpaceTab) : ∀ t ∈ tabs, ∀ (j : Nat) v, t.c[j]? = some v → W.cell? ⟨t.id, j, none⟩ = some v := by
  intro t ht j v hj
  simp only [tabs, List.mem_singleton] at ht
  subst ht
  simp only [asciiList, List.getElem?_map, Option.map_eq_some_iff] at hj
  obtain ⟨z, hz, rfl⟩ := hj
  have hl := (List.getElem?_eq_some_iff.1 hz).1
  have := h.cell gTab j hl
  rw [this, List.getD, hz]
  rfl
theorem blockOk {W : World} (h : Lib.TabIs Tryd.prog W "strings.asciiSpace" .u8 Lib.asciiSpaceTab) : ∀ t ∈ tabs, t.id < W.heap.size := by
  intro t ht
  have hc := cellOk h t ht 0 (.int .u8 0) (by simp only [tabs, List.mem_singleton] at ht; subst ht; kernel_rfl)
  exact World.block_lt_of_cell? W ⟨t.id, 0, none⟩ hc
theorem tabs_ok : Ab.tabsOk tabs = true := by kernel_rfl

/-- The cells that a plain datum reads. -/
def flat1 : DataW Unit → List Value
  | .lit (.int k z) => [.int k z]
  | _ => []
def flat2 : DataW Unit → List Value
  | .agg xs => xs.flatMap flat1
  | d => flat1 d
def flat3 : DataW Unit → List Value
  | .agg xs => xs.flatMap flat2
  | d => flat1 d

/-- A world for the witness: the settled one, four blocks more, the nine variables holding what their initialisers lay. -/
noncomputable def laidWorld (os : Os) : World :=
  let N := (World.settled Tryd.prog os).heap.size
  let w0 := World.holding Tryd.prog os ⟨#[.cells (Lib.whiteT.map fun (z : Nat) => Value.int .u16 (z : Int)).toArray 96, .cells #[.slice (some ⟨N, 0, none⟩) 7 7, .slice none 0 0, .int .i64 2] 93,
    .cells #[.string ⟨#[118, 97, 108, 117, 101, 32, 111, 117, 116, 32, 111, 102, 32, 114, 97, 110, 103, 101]⟩] 128, .cells #[.string ⟨#[105, 110, 118, 97, 108, 105, 100, 32, 115, 121, 110, 116, 97, 120]⟩] 128], #[], []⟩
  let put (h : Array Obj) (g : Nat) (cs : Array Value) : Array Obj := h.modify g fun
    | .cells _ t frozen => .cells cs t frozen
    | o => o
  { w0 with heap := put (put (put (put (put (put (put (put (put w0.heap 8 (flat3 Rows.laid_math_bits_deBruijn32tab).toArray) 9 (flat3 Rows.laid_math_bits_deBruijn64tab).toArray) 7 (flat3 Rows.laid_internal_strconv_uint64pow10).toArray)
      4 (flat3 Rows.laid_unicode_utf8_acceptRanges).toArray) 6 #[.iface 126 (.pointer (some ⟨N + 2, 0, none⟩))]) 5 #[.iface 126 (.pointer (some ⟨N + 3, 0, none⟩))]) 1 #[.pointer (some ⟨N + 1, 0, none⟩)]) 0 (flat3 Rows.laid_strings_asciiSpace).toArray) 3 (flat3 Rows.laid_unicode_utf8_first).toArray }

set_option maxRecDepth 100000
theorem laid_met (os : Os) (args : Array Value) : laidMet Tryd.prog Rows.bitsRowsRow.laid ((laidWorld os).forCall (fun _ _ => 0) ⟨#[], args, []⟩).memory :=
  laidMet_of_run3 10 (by kernel_rfl) (by kernel_rfl) (by kernel_rfl)
end Go.Proofs.YtfdeejmibgpbhaaDoor.bits
