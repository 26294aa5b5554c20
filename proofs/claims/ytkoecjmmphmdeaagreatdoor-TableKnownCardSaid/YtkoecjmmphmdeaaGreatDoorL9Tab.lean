/- The table, as a known call of closed runs. -/
import Derived.Test.YtkoecjmmphmdeaaGreatDoorS3Tells
import Derived.Test.YtkoecjmmphmdeaaGreatDoorLibA
set_option linter.unusedVariables false
set_option maxRecDepth 100000
namespace Go.Proofs.YtkoecjmmphmdeaaGreatDoor.code
open Go.Ab

noncomputable def LL : FuncId → List Fm := fun f => bif Nat.beq f f_alu_Rows then L_alu else bif Nat.beq f f_unary_Rows then L_unary else bif Nat.beq f f_flow_Rows then L_flow else bif Nat.beq f f_bits_Rows then L_bits else bif Nat.beq f f_sse_Rows then L_sse else L_avx
theorem LL_tells : ∀ x ∈ lis, Tells (TabT tab.tabs) x.2.2 (LL x.2.2) := by
  intro x hx
  simp only [lis, List.mem_cons, List.not_mem_nil, or_false] at hx
  rcases hx with rfl | rfl | rfl | rfl | rfl | rfl
  · exact tells_alu_Rows
  · exact tells_unary_Rows
  · exact tells_flow_Rows
  · exact tells_bits_Rows
  · exact tells_sse_Rows
  · exact tells_avx_Rows
/-- All forms. -/
noncomputable def Lall : List Fm := L_alu ++ (L_unary ++ (L_flow ++ (L_bits ++ (L_sse ++ L_avx))))
theorem col_all (p : Fm → Bool) : colF LL 1 322 p lis = Lall.filter p := by
  have h : colF LL 1 322 (fun _ => true) lis = Lall := by
    have e : ∀ l : List Fm, l.filter (fun _ => true) = l := fun l => by simp
    simp only [colF, lis, List.flatMap_cons, List.flatMap_nil, List.append_nil, e]
    rfl
  rw [colF_all, h]
theorem tabs_wf : (tabHeap prog.globals.size tab.tabs).Wf := fun id hid => by
  cases hg : (tabHeap prog.globals.size tab.tabs).get id with
  | none => rfl
  | some b =>
    obtain ⟨t, h1, h2, _⟩ := tabHeap_get hg
    have := tab.tabs_low t h1
    have hid : prog.globals.size ≤ id := hid
    subst h2
    exact absurd this (by show ¬ t.id < prog.globals.size; omega)
theorem tabs_t : TabT tab.tabs (tabHeap prog.globals.size tab.tabs) := by unfold TabT; kernel_rfl
noncomputable def tkn : CallF := tknown tab.tabs LL
theorem tkn_ok : CallOk prog tkn := tknown_ok tab.tabs_ok tab.tabs_low tabs_wf tabs_t LL LL_tells (by kernel_rfl) (by kernel_rfl) (by kernel_rfl)
noncomputable def knT : CallF := orKnown (xknown tab.xt) tkn
theorem knT_ok : CallOk prog knT := orKnown_ok tab.xt_ok tkn_ok
end Go.Proofs.YtkoecjmmphmdeaaGreatDoor.code
