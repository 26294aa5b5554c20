/- The table, as a known call of closed runs. -/
import Derived.Test.YtbkbdnlfkahaaaaGreatDoorS3Tells
import Derived.Test.YtbkbdnlfkahaaaaGreatDoorLibA
import Derived.Test.YtbkbdnlfkahaaaaGreatDoorLibD
set_option linter.unusedVariables false
set_option maxRecDepth 100000
namespace Go.Proofs.YtbkbdnlfkahaaaaGreatDoor.code
open Go.Ab

noncomputable def LL : FuncId → List Fm := fun f => bif Nat.beq f f_alu_Rows then L_alu else bif Nat.beq f f_unary_Rows then L_unary else bif Nat.beq f f_flow_Rows then L_flow else bif Nat.beq f f_bits_Rows then L_bits else bif Nat.beq f f_sse_Rows then L_sse else L_avx
theorem LL_tells : ∀ x ∈ lis, Tells (TabT tab.tabs) x.2.2 (LL x.2.2) := by
  intro x hx
  simp only [lis, List.mem_cons, List.not_mem_nil, or_false] at hx
  rcases hx with rfl | rfl | rfl | rfl | rfl | rfl
  · exact tells_alu_Rows
  · exact tells_unary_Rows
  · exact tells_flow_Rows
  · exact tells_bits_Rows
  · exact tells_sse_Rows
  · exact tells_avx_Rows
noncomputable def Lall : List Fm := L_alu ++ (L_unary ++ (L_flow ++ (L_bits ++ (L_sse ++ L_avx))))
theorem col_all (p : Fm → Bool) : colF LL 1 322 p lis = Lall.filter p := by
  have h : colF LL 1 322 (fun _ => true) lis = Lall := by
    have e : ∀ l : List Fm, l.filter (fun _ => true) = l := fun l => by simp
    simp only [colF, lis, List.flatMap_cons, List.flatMap_nil, List.append_nil, e]
    rfl
  rw [colF_all, h]
theorem filter_none {L : List Fm} {a b op : Int} (h : (L.all fun f => decide (a ≤ f.op) && decide (f.op ≤ b)) = true) (ho : op < a ∨ op > b) : L.filter (fun f => f.op == op) = [] := by
  rw [List.filter_eq_nil_iff]
  intro f hf
  have := List.all_eq_true.1 h f hf
  simp only [Bool.and_eq_true, decide_eq_true_eq] at this
  simp only [beq_iff_eq]
  omega
theorem rng : (L_alu.all fun f => decide (1 ≤ f.op) && decide (f.op ≤ 16)) = true ∧ (L_unary.all fun f => decide (16 ≤ f.op) && decide (f.op ≤ 47)) = true ∧ (L_flow.all fun f => decide (48 ≤ f.op) && decide (f.op ≤ 115)) = true ∧ (L_bits.all fun f => decide (116 ≤ f.op) && decide (f.op ≤ 135)) = true ∧ (L_sse.all fun f => decide (136 ≤ f.op) && decide (f.op ≤ 262)) = true ∧ (L_avx.all fun f => decide (263 ≤ f.op) && decide (f.op ≤ 322)) = true :=
  ⟨by kernel_rfl, by kernel_rfl, by kernel_rfl, by kernel_rfl, by kernel_rfl, by kernel_rfl⟩
theorem col_of (op : Int) : colF LL op op (fun f => f.op == op) lis = Lall.filter (fun f => f.op == op) := by
  have key : ∀ (a b : Int) (L : List Fm), (L.all fun f => decide (a ≤ f.op) && decide (f.op ≤ b)) = true → (bif decide (op < a) || decide (op > b) then [] else L.filter fun f => f.op == op) = L.filter fun f => f.op == op := fun a b L h => by
    cases hc : decide (op < a) || decide (op > b) with
    | false => rfl
    | true =>
      simp only [Bool.or_eq_true, decide_eq_true_eq] at hc
      rw [filter_none h hc]; rfl
  obtain ⟨r1, r2, r3, r4, r5, r6⟩ := rng
  have e : colF LL op op (fun f => f.op == op) lis = (bif decide (op < 1) || decide (op > 16) then [] else L_alu.filter fun f => f.op == op) ++ ((bif decide (op < 16) || decide (op > 47) then [] else L_unary.filter fun f => f.op == op) ++ ((bif decide (op < 48) || decide (op > 115) then [] else L_flow.filter fun f => f.op == op) ++ ((bif decide (op < 116) || decide (op > 135) then [] else L_bits.filter fun f => f.op == op) ++ ((bif decide (op < 136) || decide (op > 262) then [] else L_sse.filter fun f => f.op == op) ++ ((bif decide (op < 263) || decide (op > 322) then [] else L_avx.filter fun f => f.op == op) ++ []))))) := rfl
  rw [e, key _ _ _ r1, key _ _ _ r2, key _ _ _ r3, key _ _ _ r4, key _ _ _ r5, key _ _ _ r6, List.append_nil]
  simp only [Lall, List.filter_append]
theorem Lall_length : Lall.length = 834 := by kernel_rfl
theorem tabs_wf : (tabHeap prog.globals.size tab.tabs).Wf := fun id hid => by
  cases hg : (tabHeap prog.globals.size tab.tabs).get id with
  | none => rfl
  | some b =>
    obtain ⟨t, h1, h2, _⟩ := tabHeap_get hg
    have := tab.tabs_low t h1
    have hid : prog.globals.size ≤ id := hid
    subst h2
    exact absurd this (by show ¬ t.id < prog.globals.size; omega)
theorem tabs_t : TabT tab.tabs (tabHeap prog.globals.size tab.tabs) := by unfold TabT; kernel_rfl
noncomputable def tkn : CallF := tknown tab.tabs LL
theorem tkn_ok : CallOk prog tkn := tknown_ok tab.tabs_ok tab.tabs_low tabs_wf tabs_t LL LL_tells (by kernel_rfl) (by kernel_rfl)
noncomputable def knT : CallF := orKnown (xknown tab.xt) tkn
theorem knT_ok : CallOk prog knT := orKnown_ok tab.xt_ok tkn_ok
theorem q_Rows (H : Heap) (hT : TabT tab.tabs H) : CallQ prog f_table_Rows [] H fun u H' => Told H H' u Lall := by
  have := q_table_Rows tabT_ext LL LL_tells H hT
  rwa [col_all, List.filter_eq_self.2 (fun _ _ => rfl)] at this
theorem q_Of (op : Int) (H : Heap) (hT : TabT tab.tabs H) : CallQ prog f_table_Of [.int .i64 op] H fun u H' => Told H H' u (Lall.filter fun f => f.op == op) := by
  have := q_table_Of tabT_ext LL LL_tells op H hT
  rwa [col_of] at this
theorem Told.short {H H' : Heap} {u : Value} {p : Fm → Bool} {ys : List Lf} (h : ys.map (·.f) = Lall.filter p) : ys.length ≤ 834 := by
  have h1 := congrArg List.length h
  have h2 := List.length_filter_le p Lall
  rw [Lall_length] at h2
  simp only [List.length_map] at h1
  omega
end Go.Proofs.YtbkbdnlfkahaaaaGreatDoor.code
/- The table and decode.find as known calls. -/
set_option linter.unusedVariables false
set_option maxRecDepth 100000
namespace Go.Proofs.YtbkbdnlfkahaaaaGreatDoor.code
open Go.Ab
noncomputable def mapTyB : Bool := match prog.underlying TM_p_decode_node with
  | some (.map k e) => (match prog.underlying k, prog.info? e with
    | some (.int _), some inf => (match inf.zero with | some (.pointer none) => true | _ => false)
    | _, _ => false)
  | _ => false
theorem mapTy_of (h : mapTyB = true) : MapTy TM_p_decode_node := by
  unfold mapTyB at h
  split at h
  · rename_i k e h1
    split at h
    · rename_i ik inf h2 h3
      split at h
      · rename_i h4
        exact ⟨⟨k, e, _, inf, h1, h2, h3, h4, fun c => rfl⟩⟩
      · cases h
    · cases h
  · cases h
theorem mapTyF : MapTy TM_p_decode_node := mapTy_of (by kernel_rfl)
noncomputable def knF : CallF := orKnown knT (findKn tab.tabs Lall)
theorem knF_ok : CallOk prog knF := orKnown_ok knT_ok (findKn_ok tab.tabs_ok tab.tabs_low tabs_wf tabs_t q_Rows mapTyF (by kernel_rfl))
end Go.Proofs.YtbkbdnlfkahaaaaGreatDoor.code
/- What is known: the table and decode.find. -/
namespace Go.Proofs.YtbkbdnlfkahaaaaGreatDoor.code
open Go.Ab
noncomputable def knZ : CallF := knF
theorem knZ_ok : CallOk prog knZ := knF_ok
end Go.Proofs.YtbkbdnlfkahaaaaGreatDoor.code
