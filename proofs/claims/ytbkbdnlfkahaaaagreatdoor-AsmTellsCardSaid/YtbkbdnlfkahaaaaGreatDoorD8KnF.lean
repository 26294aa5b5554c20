/- The table and decode.find as known calls. -/
import Derived.Test.YtbkbdnlfkahaaaaGreatDoorL9Tab
import Derived.Test.YtbkbdnlfkahaaaaGreatDoorLibD
set_option linter.unusedVariables false
set_option maxRecDepth 100000
namespace Go.Proofs.YtbkbdnlfkahaaaaGreatDoor.code
open Go.Ab
noncomputable def mapTyB : Bool := match prog.underlying TM_p_decode_node with
  | some (.map k e) => (match prog.underlying k, prog.info? e with
    | some (.int _), some inf => (match inf.zero with | some (.pointer none) => true | _ => false)
    | _, _ => false)
  | _ => false
theorem mapTy_of (h : mapTyB = true) : MapTy TM_p_decode_node := by
  unfold mapTyB at h
  split at h
  · rename_i k e h1
    split at h
    · rename_i ik inf h2 h3
      split at h
      · rename_i h4
        exact ⟨⟨k, e, _, inf, h1, h2, h3, h4, fun c => rfl⟩⟩
      · cases h
    · cases h
  · cases h
theorem mapTyF : MapTy TM_p_decode_node := mapTy_of (by kernel_rfl)
noncomputable def knF : CallF := orKnown knT (findKn tab.tabs Lall)
theorem knF_ok : CallOk prog knF := orKnown_ok knT_ok (findKn_ok tab.tabs_ok tab.tabs_low tabs_wf tabs_t q_Rows mapTyF (by kernel_rfl))
end Go.Proofs.YtbkbdnlfkahaaaaGreatDoor.code
