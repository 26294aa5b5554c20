/- table.Match over the table. -/
import Derived.Test.YtkoecjmmphmdeaaGreatDoorL9Tab
import Derived.Test.YtkoecjmmphmdeaaGreatDoorK8Match
set_option linter.unusedVariables false
set_option linter.unusedSimpArgs false
set_option maxRecDepth 100000
namespace Go.Proofs.YtkoecjmmphmdeaaGreatDoor.code
open Go.Ab

theorem q_Match (k : Ky) (H : Heap) (hT : TabT tab.tabs H) : CallQ prog f_table_Match [.agg k.cells.toArray] H fun u H' => Told H H' u (Lall.filter fun f => mayF f k) := by
  have := q_table_Match tabT_ext LL LL_tells k H hT
  rwa [col_all] at this
noncomputable def mkn : CallF := mknown tab.tabs LL
theorem mkn_ok : CallOk prog mkn := mknown_ok tab.tabs_ok tab.tabs_low tabs_wf tabs_t LL LL_tells (by kernel_rfl)
noncomputable def knM : CallF := orKnown knT mkn
theorem knM_ok : CallOk prog knM := orKnown_ok knT_ok mkn_ok
end Go.Proofs.YtkoecjmmphmdeaaGreatDoor.code
