/- ListingReads over the laid tables. -/
import Derived.Test.YthoanamkoigjeaaGreatDoorLibX
import Derived.Test.YthoanamkoigjeaaGreatDoorS1Laid
set_option linter.unusedVariables false
set_option linter.unusedSimpArgs false
set_option maxRecDepth 100000
namespace Go.Proofs.YthoanamkoigjeaaGreatDoor.code
open Go.Ab

def TabT (tabs : List Tab) (H : Heap) : Prop := tabsIn tabs H = true
theorem tabT_ext {tabs : List Tab} (H H' : Heap) (hw : H.Wf) (h : TabT tabs H) (hx : Ext H H') : TabT tabs H' := by
  unfold TabT tabsIn at *
  rw [List.all_eq_true] at *
  intro t ht
  have h1 := h t ht
  cases hg : H.get t.id with
  | none => rw [hg] at h1; cases h1
  | some b => rw [hx.get _ (hw.lt hg)]; exact h1
theorem tabs_low : ∀ t ∈ tab.tabs, t.id < prog.globals.size := by
  have h : (tab.tabs.all fun t => Nat.blt t.id prog.globals.size) = true := by kernel_rfl
  intro t ht
  have := List.all_eq_true.1 h t ht
  rwa [Nat.blt_eq] at this
theorem tabs_wf : (tabHeap prog.globals.size tab.tabs).Wf := fun id hid => by
  cases hg : (tabHeap prog.globals.size tab.tabs).get id with
  | none => rfl
  | some b =>
    obtain ⟨t, h1, h2, _⟩ := tabHeap_get hg
    have := tabs_low t h1
    have hid : prog.globals.size ≤ id := hid
    subst h2
    exact absurd this (by show ¬ t.id < prog.globals.size; omega)
theorem tabs_t : TabT tab.tabs (tabHeap prog.globals.size tab.tabs) := by unfold TabT; kernel_rfl
theorem tabs_ro : AllRo (tabHeap prog.globals.size tab.tabs) := fun id b h => by
  obtain ⟨t, _, _, rfl⟩ := tabHeap_get h
  rfl
theorem closed_v {F G k : Nat} {f : FuncId} {args : List Value} {u : Value} (he : entered prog f = true) (ha : args.all Ab.plain = true) (hu : Ab.plain u = true) (h : isV u ((run prog (xknown extT) F G k).fn f args (tabHeap prog.globals.size tab.tabs)) = true) (H : Heap) (hT : TabT tab.tabs H) : CallQ prog f args H fun v H' => v = u ∧ H' = H := by
  unfold isV at h
  split at h
  · rename_i v H1 hr
    have hd := ((run_sound (xknown_ok extT_ok) k).fn f args _ _ H1 hr).does he
    have e : u = v := beqV_eq 6 _ _ h
    subst e
    refine callQ_of_does he (does_view (args := args) (args2 := args) (τ := fun n => n) hd hu (Nat.le_refl _) (fun _ _ => rfl) (fun id b hb => ?_) rfl fun j x y hx hy => ?_)
    · have hg := tabsIn_get hT id b hb
      obtain ⟨t, ht1, rfl, rfl⟩ := tabHeap_get hb
      refine ⟨t.c, t.e, t.c, t.e, true, rfl, hg, rfl, fun j x y hx hy => ?_⟩
      rw [hx] at hy
      cases hy
      exact Seen.plain (List.all_eq_true.1 (List.all_eq_true.1 tab.tabs_ok t ht1) x (List.mem_of_getElem? hx))
    · rw [hx] at hy
      cases hy
      exact Seen.plain (List.all_eq_true.1 ha x (List.mem_of_getElem? hx))
  · cases h
theorem tz16 : isV (.int .i64 4) ((run prog (xknown extT) 200 5 12).fn f_math_bits_TrailingZeros [.int .u64 16] (tabHeap prog.globals.size tab.tabs)) = true := by kernel_rfl
theorem tabT_Tz : Tz (TabT tab.tabs) where
  q := ⟨fun H H' hw h hx => tabT_ext H H' hw h hx, fun H hT => closed_v (by kernel_rfl) rfl rfl tz16 H hT⟩
  pow := fun H hT => by
    have h : (tabHeap prog.globals.size tab.tabs).get G_internal_strconv_uint64pow10 = some (.cells pow10L 128 true) := by kernel_rfl
    exact ⟨_, _, tabsIn_get hT _ _ h⟩
theorem awake31 : isV (.bool true) ((run prog (xknown extT) 100000 5 60).fn f_linotypelaw31_awake [] (tabHeap prog.globals.size tab.tabs)) = true := by kernel_rfl
theorem q_law31 (l : List (List UInt8)) (lv : Value) (H : Heap) (hT : TabT tab.tabs H) (hs : IsSl H lv l.length (strs l)) : CallQ prog f_linotypelaw31_ListingReads [lv] H fun u H' => u = .bool true ∧ True :=
  (q_ListingReads tabT_Tz (fun H hT => (closed_v (by kernel_rfl) rfl rfl awake31 H hT).mono fun _ _ h => h.1) l lv H hT hs).mono fun _ _ h => ⟨h, trivial⟩
end Go.Proofs.YthoanamkoigjeaaGreatDoor.code
