/- What is known of decode ahead of the closed runs. -/
import Derived.Test.YtfofbicfabokbaaGreatDoorV1Read
set_option linter.unusedVariables false
set_option maxRecDepth 100000
namespace Go.Proofs.YtfofbicfabokbaaGreatDoor.code
open Go.Ab
theorem mapTy : MapTy TM_p_decode_node := by
  have h : (prog.info? 63).map (·.zero) = some (some (.pointer none)) := by kernel_rfl
  obtain ⟨inf, h1, h2⟩ := Option.map_eq_some_iff.1 h
  exact ⟨⟨5, 63, .int .u8, inf, by kernel_rfl, by kernel_rfl, h1, h2, fun c => rfl⟩⟩
theorem read_ok : entered prog f_decode_read = true := by kernel_rfl
theorem rows_q (H : Heap) (hT : TabT tab.tabs H) : CallQ prog f_table_Rows [] H fun u H' => Told H H' u Lall := q_Rows H hT
theorem fail0 : ∀ f ∈ findGo [] true 0 Lall, ef0 f ≠ 0 ∧ RdFail (TabT tab.tabs) [] f (ef0 f) := by
  intro f hf
  refine rdFail_of_chk tab.tabs_ok tab.tabs_low tab.xt_ok read_ok ?_
  have hf : f ∈ Lall := hf
  simp only [Lall, List.mem_append] at hf
  rcases hf with hf | hf | hf | hf | hf | hf
  · exact List.all_eq_true.1 c0a f hf
  · exact List.all_eq_true.1 c0b f hf
  · exact List.all_eq_true.1 c0c f hf
  · exact List.all_eq_true.1 c0d f hf
  · exact List.all_eq_true.1 c0e f hf
  · exact List.all_eq_true.1 c0f f hf
theorem fail15 : ∀ f ∈ findGo [15] true 0 Lall, ef15 f ≠ 0 ∧ RdFail (TabT tab.tabs) [15] f (ef15 f) := by
  intro f hf
  refine rdFail_of_chk tab.tabs_ok tab.tabs_low tab.xt_ok read_ok ?_
  have hf : f ∈ F15 := hf
  have e : F15 = F15.take 40 ++ ((F15.drop 40).take 40 ++ ((F15.drop 80).take 40 ++ F15.drop 120)) := by
    have h1 := List.take_append_drop 40 F15
    have h2 := List.take_append_drop 40 (F15.drop 40)
    have h3 := List.take_append_drop 40 (F15.drop 80)
    rw [List.drop_drop] at h2 h3
    rw [h3, h2, h1]
  rw [e] at hf
  simp only [List.mem_append] at hf
  rcases hf with hf | hf | hf | hf
  · exact List.all_eq_true.1 c15a f hf
  · exact List.all_eq_true.1 c15b f hf
  · exact List.all_eq_true.1 c15c f hf
  · exact List.all_eq_true.1 c15d f hf
theorem err0 : errF ((findGo [] true 0 Lall).map ef0) = 9 := by kernel_rfl
theorem err15 : errF ((findGo [15] true 0 Lall).map ef15) = 9 := by kernel_rfl
noncomputable def decEs : List (List Int × Int) := [([], 9), ([15], 9)]
theorem decEs_q : ∀ p ∈ decEs, ∀ (va : Value) (H : Heap), TabT tab.tabs H → BsAt H va p.1 → (p.1 = [] → va = .slice none 0 0) → p.1.length ≤ 100000 → CallQ prog f_decode_Decode [va] H fun u H' => u = noInst p.2 ∧ ∃ m, H' = H.up m := by
  intro p hp va H hT hb hb0 hl
  simp only [decEs, List.mem_cons, List.not_mem_nil, or_false] at hp
  rcases hp with rfl | rfl
  · have := q_decode_Decode_none rows_q mapTy va [] ef0 fail0 tabT_ext H hT hb hb0 hl
    rwa [err0] at this
  · have := q_decode_Decode_none rows_q mapTy va [15] ef15 fail15 tabT_ext H hT hb hb0 hl
    rwa [err15] at this
noncomputable def knF : CallF := orKnown knT (findKn tab.tabs Lall)
theorem knF_ok : CallOk prog knF := orKnown_ok knT_ok (findKn_ok tab.tabs_ok tab.tabs_low tabs_wf tabs_t rows_q mapTy (by kernel_rfl))
noncomputable def knD : CallF := orKnown knF (decKn tab.tabs decEs)
theorem knD_ok : CallOk prog knD := orKnown_ok knF_ok (decKn_ok tab.tabs_ok tab.tabs_low tabs_wf tabs_t decEs_q (by kernel_rfl))
end Go.Proofs.YtfofbicfabokbaaGreatDoor.code
