/- What is known ahead of the last runs. -/
import Derived.Test.YtbkbdnlfkahaaaaGreatDoorV0P0
import Derived.Test.YtbkbdnlfkahaaaaGreatDoorV0P1
import Derived.Test.YtbkbdnlfkahaaaaGreatDoorV0PC
import Derived.Test.YtbkbdnlfkahaaaaGreatDoorV0PD
import Derived.Test.YtbkbdnlfkahaaaaGreatDoorV0PE
import Derived.Test.YtbkbdnlfkahaaaaGreatDoorV0PF
namespace Go.Proofs.YtbkbdnlfkahaaaaGreatDoor.code
open Go.Ab _root_.Go.Proofs.YtbkbdnlfkahaaaaGreatDoor.tab
set_option maxRecDepth 100000
theorem msel0_ok : ∀ f, ∀ s ∈ msel0 f, SumIOk Tryz.prog tab.tabs s := fun f s hs => by cases hs
theorem all_ms0_0 : ∀ s ∈ ms0_0, SumIOk Tryz.prog tab.tabs s := sums_ok knZ_ok ms0_0_ok (by kernel_rfl)
theorem all_ms0_1 : ∀ s ∈ ms0_1, SumIOk Tryz.prog tab.tabs s := sums_ok knZ_ok ms0_1_ok (by kernel_rfl)
theorem all_ms0_2 : ∀ s ∈ ms0_2, SumIOk Tryz.prog tab.tabs s := sums_ok knZ_ok ms0_2_ok (by kernel_rfl)
theorem msel1_ok : ∀ f, ∀ s ∈ msel1 f, SumIOk Tryz.prog tab.tabs s := fun f s hs => by
  unfold msel1 at hs
  cases h : Nat.beq f 153 with
  | true =>
    rw [h, cond_true] at hs
    simp only [List.mem_append] at hs
    rcases hs with (hs | hs) | hs
    · exact all_ms0_0 s hs
    · exact all_ms0_1 s hs
    · exact all_ms0_2 s hs
  | false =>
    rw [h, cond_false] at hs
    exact msel0_ok f s hs
theorem more1_ok : CallOk Tryz.prog more1 := orKnown_ok knZ_ok (byFn_ok tab.tabs_ok tab.tabs_low msel1_ok)
theorem all_ms1_0 : ∀ s ∈ ms1_0, SumIOk Tryz.prog tab.tabs s := sums_ok more1_ok ms1_0_ok (by kernel_rfl)
theorem all_ms1_1 : ∀ s ∈ ms1_1, SumIOk Tryz.prog tab.tabs s := sums_ok more1_ok ms1_1_ok (by kernel_rfl)
theorem msel2_ok : ∀ f, ∀ s ∈ msel2 f, SumIOk Tryz.prog tab.tabs s := fun f s hs => by
  unfold msel2 at hs
  cases h : Nat.beq f 252 with
  | true =>
    rw [h, cond_true] at hs
    simp only [List.mem_append] at hs
    rcases hs with hs | hs
    · exact all_ms1_0 s hs
    · exact all_ms1_1 s hs
  | false =>
    rw [h, cond_false] at hs
    exact msel1_ok f s hs
theorem more2_ok : CallOk Tryz.prog more2 := orKnown_ok knZ_ok (byFn_ok tab.tabs_ok tab.tabs_low msel2_ok)
theorem all_ms2_0 : ∀ s ∈ ms2_0, SumIOk Tryz.prog tab.tabs s := sums_ok more2_ok ms2_0_ok (by kernel_rfl)
theorem all_ms2_1 : ∀ s ∈ ms2_1, SumIOk Tryz.prog tab.tabs s := sums_ok more2_ok ms2_1_ok (by kernel_rfl)
theorem all_ms2_2 : ∀ s ∈ ms2_2, SumIOk Tryz.prog tab.tabs s := sums_ok more2_ok ms2_2_ok (by kernel_rfl)
theorem all_ms2_3 : ∀ s ∈ ms2_3, SumIOk Tryz.prog tab.tabs s := sums_ok more2_ok ms2_3_ok (by kernel_rfl)
theorem all_ms2_4 : ∀ s ∈ ms2_4, SumIOk Tryz.prog tab.tabs s := sums_ok more2_ok ms2_4_ok (by kernel_rfl)
theorem all_ms2_5 : ∀ s ∈ ms2_5, SumIOk Tryz.prog tab.tabs s := sums_ok more2_ok ms2_5_ok (by kernel_rfl)
theorem all_ms2_6 : ∀ s ∈ ms2_6, SumIOk Tryz.prog tab.tabs s := sums_ok more2_ok ms2_6_ok (by kernel_rfl)
theorem all_ms2_7 : ∀ s ∈ ms2_7, SumIOk Tryz.prog tab.tabs s := sums_ok more2_ok ms2_7_ok (by kernel_rfl)
theorem all_ms2_8 : ∀ s ∈ ms2_8, SumIOk Tryz.prog tab.tabs s := sums_ok more2_ok ms2_8_ok (by kernel_rfl)
theorem msel3_ok : ∀ f, ∀ s ∈ msel3 f, SumIOk Tryz.prog tab.tabs s := fun f s hs => by
  unfold msel3 at hs
  cases h : Nat.beq f 228 with
  | true =>
    rw [h, cond_true] at hs
    simp only [List.mem_append] at hs
    rcases hs with (((((((hs | hs) | hs) | hs) | hs) | hs) | hs) | hs) | hs
    · exact all_ms2_0 s hs
    · exact all_ms2_1 s hs
    · exact all_ms2_2 s hs
    · exact all_ms2_3 s hs
    · exact all_ms2_4 s hs
    · exact all_ms2_5 s hs
    · exact all_ms2_6 s hs
    · exact all_ms2_7 s hs
    · exact all_ms2_8 s hs
  | false =>
    rw [h, cond_false] at hs
    exact msel2_ok f s hs
theorem more3_ok : CallOk Tryz.prog more3 := orKnown_ok knZ_ok (byFn_ok tab.tabs_ok tab.tabs_low msel3_ok)
theorem all_ms3_0 : ∀ s ∈ ms3_0, SumIOk Tryz.prog tab.tabs s := sums_ok more3_ok ms3_0_ok (by kernel_rfl)
theorem msel4_ok : ∀ f, ∀ s ∈ msel4 f, SumIOk Tryz.prog tab.tabs s := fun f s hs => by
  unfold msel4 at hs
  cases h : Nat.beq f 176 with
  | true =>
    rw [h, cond_true] at hs
    exact all_ms3_0 s hs
  | false =>
    rw [h, cond_false] at hs
    exact msel3_ok f s hs
theorem more4_ok : CallOk Tryz.prog more4 := orKnown_ok knZ_ok (byFn_ok tab.tabs_ok tab.tabs_low msel4_ok)
theorem all_ms4_0 : ∀ s ∈ ms4_0, SumIOk Tryz.prog tab.tabs s := sums_ok more4_ok ms4_0_ok (by kernel_rfl)
theorem msel5_ok : ∀ f, ∀ s ∈ msel5 f, SumIOk Tryz.prog tab.tabs s := fun f s hs => by
  unfold msel5 at hs
  cases h : Nat.beq f 109 with
  | true =>
    rw [h, cond_true] at hs
    exact all_ms4_0 s hs
  | false =>
    rw [h, cond_false] at hs
    exact msel4_ok f s hs
theorem more5_ok : CallOk Tryz.prog more5 := orKnown_ok knZ_ok (byFn_ok tab.tabs_ok tab.tabs_low msel5_ok)
theorem all_ms5_0 : ∀ s ∈ ms5_0, SumIOk Tryz.prog tab.tabs s := sums_ok more5_ok ms5_0_ok (by kernel_rfl)
theorem msel6_ok : ∀ f, ∀ s ∈ msel6 f, SumIOk Tryz.prog tab.tabs s := fun f s hs => by
  unfold msel6 at hs
  cases h : Nat.beq f 108 with
  | true =>
    rw [h, cond_true] at hs
    exact all_ms5_0 s hs
  | false =>
    rw [h, cond_false] at hs
    exact msel5_ok f s hs
theorem more6_ok : CallOk Tryz.prog more6 := orKnown_ok knZ_ok (byFn_ok tab.tabs_ok tab.tabs_low msel6_ok)
theorem all_ms6_0 : ∀ s ∈ ms6_0, SumIOk Tryz.prog tab.tabs s := sums_ok more6_ok ms6_0_ok (by kernel_rfl)
theorem all_ms6_1 : ∀ s ∈ ms6_1, SumIOk Tryz.prog tab.tabs s := sums_ok more6_ok ms6_1_ok (by kernel_rfl)
theorem msel7_ok : ∀ f, ∀ s ∈ msel7 f, SumIOk Tryz.prog tab.tabs s := fun f s hs => by
  unfold msel7 at hs
  cases h : Nat.beq f 34 with
  | true =>
    rw [h, cond_true] at hs
    simp only [List.mem_append] at hs
    rcases hs with hs | hs
    · exact all_ms6_0 s hs
    · exact all_ms6_1 s hs
  | false =>
    rw [h, cond_false] at hs
    exact msel6_ok f s hs
theorem more7_ok : CallOk Tryz.prog more7 := orKnown_ok knZ_ok (byFn_ok tab.tabs_ok tab.tabs_low msel7_ok)
theorem all_ms7_0 : ∀ s ∈ ms7_0, SumIOk Tryz.prog tab.tabs s := sums_ok more7_ok ms7_0_ok (by kernel_rfl)
theorem msel8_ok : ∀ f, ∀ s ∈ msel8 f, SumIOk Tryz.prog tab.tabs s := fun f s hs => by
  unfold msel8 at hs
  cases h : Nat.beq f 38 with
  | true =>
    rw [h, cond_true] at hs
    exact all_ms7_0 s hs
  | false =>
    rw [h, cond_false] at hs
    exact msel7_ok f s hs
theorem more8_ok : CallOk Tryz.prog more8 := orKnown_ok knZ_ok (byFn_ok tab.tabs_ok tab.tabs_low msel8_ok)
theorem all_ms8_0 : ∀ s ∈ ms8_0, SumIOk Tryz.prog tab.tabs s := sums_ok more8_ok ms8_0_ok (by kernel_rfl)
theorem msel9_ok : ∀ f, ∀ s ∈ msel9 f, SumIOk Tryz.prog tab.tabs s := fun f s hs => by
  unfold msel9 at hs
  cases h : Nat.beq f 26 with
  | true =>
    rw [h, cond_true] at hs
    exact all_ms8_0 s hs
  | false =>
    rw [h, cond_false] at hs
    exact msel8_ok f s hs
theorem more9_ok : CallOk Tryz.prog more9 := orKnown_ok knZ_ok (byFn_ok tab.tabs_ok tab.tabs_low msel9_ok)
end Go.Proofs.YtbkbdnlfkahaaaaGreatDoor.code
