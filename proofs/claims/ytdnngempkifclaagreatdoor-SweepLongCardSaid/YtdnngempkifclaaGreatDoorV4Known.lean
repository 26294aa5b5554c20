/- What is known ahead of the last runs. -/
import Derived.Test.YtdnngempkifclaaGreatDoorV0P0
import Derived.Test.YtdnngempkifclaaGreatDoorV0P1
import Derived.Test.YtdnngempkifclaaGreatDoorV0P2
import Derived.Test.YtdnngempkifclaaGreatDoorV0P3
import Derived.Test.YtdnngempkifclaaGreatDoorV0P4
import Derived.Test.YtdnngempkifclaaGreatDoorV0P5
import Derived.Test.YtdnngempkifclaaGreatDoorV0P6
import Derived.Test.YtdnngempkifclaaGreatDoorV0P7
import Derived.Test.YtdnngempkifclaaGreatDoorV0P8
import Derived.Test.YtdnngempkifclaaGreatDoorV0P9
import Derived.Test.YtdnngempkifclaaGreatDoorV0P10
import Derived.Test.YtdnngempkifclaaGreatDoorV0P11
import Derived.Test.YtdnngempkifclaaGreatDoorV0P12
import Derived.Test.YtdnngempkifclaaGreatDoorV0P13
import Derived.Test.YtdnngempkifclaaGreatDoorV0P14
import Derived.Test.YtdnngempkifclaaGreatDoorV0P15
import Derived.Test.YtdnngempkifclaaGreatDoorV0P16
namespace Go.Proofs.YtdnngempkifclaaGreatDoor.code
open Go.Ab _root_.Go.Proofs.YtdnngempkifclaaGreatDoor.tab
set_option maxRecDepth 100000
theorem msel0_ok : ∀ f, ∀ s ∈ msel0 f, SumIOk Tryz.prog tab.tabs s := fun f s hs => by cases hs
theorem all_ms0_0 : ∀ s ∈ ms0_0, SumIOk Tryz.prog tab.tabs s := sums_ok knF_ok ms0_0_ok (by kernel_rfl)
theorem msel1_ok : ∀ f, ∀ s ∈ msel1 f, SumIOk Tryz.prog tab.tabs s := fun f s hs => by
  unfold msel1 at hs
  cases h : Nat.beq f 50 with
  | true =>
    rw [h, cond_true] at hs
    exact all_ms0_0 s hs
  | false =>
    rw [h, cond_false] at hs
    exact msel0_ok f s hs
theorem more1_ok : CallOk Tryz.prog more1 := orKnown_ok knF_ok (byFn_ok tab.tabs_ok tab.tabs_low msel1_ok)
theorem all_ms1_0 : ∀ s ∈ ms1_0, SumIOk Tryz.prog tab.tabs s := sums_ok more1_ok ms1_0_ok (by kernel_rfl)
theorem all_ms1_1 : ∀ s ∈ ms1_1, SumIOk Tryz.prog tab.tabs s := sums_ok more1_ok ms1_1_ok (by kernel_rfl)
theorem all_ms1_2 : ∀ s ∈ ms1_2, SumIOk Tryz.prog tab.tabs s := sums_ok more1_ok ms1_2_ok (by kernel_rfl)
theorem all_ms1_3 : ∀ s ∈ ms1_3, SumIOk Tryz.prog tab.tabs s := sums_ok more1_ok ms1_3_ok (by kernel_rfl)
theorem all_ms1_4 : ∀ s ∈ ms1_4, SumIOk Tryz.prog tab.tabs s := sums_ok more1_ok ms1_4_ok (by kernel_rfl)
theorem all_ms1_5 : ∀ s ∈ ms1_5, SumIOk Tryz.prog tab.tabs s := sums_ok more1_ok ms1_5_ok (by kernel_rfl)
theorem all_ms1_6 : ∀ s ∈ ms1_6, SumIOk Tryz.prog tab.tabs s := sums_ok more1_ok ms1_6_ok (by kernel_rfl)
theorem all_ms1_7 : ∀ s ∈ ms1_7, SumIOk Tryz.prog tab.tabs s := sums_ok more1_ok ms1_7_ok (by kernel_rfl)
theorem all_ms1_8 : ∀ s ∈ ms1_8, SumIOk Tryz.prog tab.tabs s := sums_ok more1_ok ms1_8_ok (by kernel_rfl)
theorem all_ms1_9 : ∀ s ∈ ms1_9, SumIOk Tryz.prog tab.tabs s := sums_ok more1_ok ms1_9_ok (by kernel_rfl)
theorem all_ms1_10 : ∀ s ∈ ms1_10, SumIOk Tryz.prog tab.tabs s := sums_ok more1_ok ms1_10_ok (by kernel_rfl)
theorem all_ms1_11 : ∀ s ∈ ms1_11, SumIOk Tryz.prog tab.tabs s := sums_ok more1_ok ms1_11_ok (by kernel_rfl)
theorem all_ms1_12 : ∀ s ∈ ms1_12, SumIOk Tryz.prog tab.tabs s := sums_ok more1_ok ms1_12_ok (by kernel_rfl)
theorem all_ms1_13 : ∀ s ∈ ms1_13, SumIOk Tryz.prog tab.tabs s := sums_ok more1_ok ms1_13_ok (by kernel_rfl)
theorem all_ms1_14 : ∀ s ∈ ms1_14, SumIOk Tryz.prog tab.tabs s := sums_ok more1_ok ms1_14_ok (by kernel_rfl)
theorem all_ms1_15 : ∀ s ∈ ms1_15, SumIOk Tryz.prog tab.tabs s := sums_ok more1_ok ms1_15_ok (by kernel_rfl)
theorem all_ms1_16 : ∀ s ∈ ms1_16, SumIOk Tryz.prog tab.tabs s := sums_ok more1_ok ms1_16_ok (by kernel_rfl)
theorem all_ms1_17 : ∀ s ∈ ms1_17, SumIOk Tryz.prog tab.tabs s := sums_ok more1_ok ms1_17_ok (by kernel_rfl)
theorem all_ms1_18 : ∀ s ∈ ms1_18, SumIOk Tryz.prog tab.tabs s := sums_ok more1_ok ms1_18_ok (by kernel_rfl)
theorem all_ms1_19 : ∀ s ∈ ms1_19, SumIOk Tryz.prog tab.tabs s := sums_ok more1_ok ms1_19_ok (by kernel_rfl)
theorem all_ms1_20 : ∀ s ∈ ms1_20, SumIOk Tryz.prog tab.tabs s := sums_ok more1_ok ms1_20_ok (by kernel_rfl)
theorem all_ms1_21 : ∀ s ∈ ms1_21, SumIOk Tryz.prog tab.tabs s := sums_ok more1_ok ms1_21_ok (by kernel_rfl)
theorem all_ms1_22 : ∀ s ∈ ms1_22, SumIOk Tryz.prog tab.tabs s := sums_ok more1_ok ms1_22_ok (by kernel_rfl)
theorem all_ms1_23 : ∀ s ∈ ms1_23, SumIOk Tryz.prog tab.tabs s := sums_ok more1_ok ms1_23_ok (by kernel_rfl)
theorem all_ms1_24 : ∀ s ∈ ms1_24, SumIOk Tryz.prog tab.tabs s := sums_ok more1_ok ms1_24_ok (by kernel_rfl)
theorem all_ms1_25 : ∀ s ∈ ms1_25, SumIOk Tryz.prog tab.tabs s := sums_ok more1_ok ms1_25_ok (by kernel_rfl)
theorem all_ms1_26 : ∀ s ∈ ms1_26, SumIOk Tryz.prog tab.tabs s := sums_ok more1_ok ms1_26_ok (by kernel_rfl)
theorem all_ms1_27 : ∀ s ∈ ms1_27, SumIOk Tryz.prog tab.tabs s := sums_ok more1_ok ms1_27_ok (by kernel_rfl)
theorem all_ms1_28 : ∀ s ∈ ms1_28, SumIOk Tryz.prog tab.tabs s := sums_ok more1_ok ms1_28_ok (by kernel_rfl)
theorem all_ms1_29 : ∀ s ∈ ms1_29, SumIOk Tryz.prog tab.tabs s := sums_ok more1_ok ms1_29_ok (by kernel_rfl)
theorem all_ms1_30 : ∀ s ∈ ms1_30, SumIOk Tryz.prog tab.tabs s := sums_ok more1_ok ms1_30_ok (by kernel_rfl)
theorem all_ms1_31 : ∀ s ∈ ms1_31, SumIOk Tryz.prog tab.tabs s := sums_ok more1_ok ms1_31_ok (by kernel_rfl)
theorem all_ms1_32 : ∀ s ∈ ms1_32, SumIOk Tryz.prog tab.tabs s := sums_ok more1_ok ms1_32_ok (by kernel_rfl)
theorem all_ms1_33 : ∀ s ∈ ms1_33, SumIOk Tryz.prog tab.tabs s := sums_ok more1_ok ms1_33_ok (by kernel_rfl)
theorem all_ms1_34 : ∀ s ∈ ms1_34, SumIOk Tryz.prog tab.tabs s := sums_ok more1_ok ms1_34_ok (by kernel_rfl)
theorem all_ms1_35 : ∀ s ∈ ms1_35, SumIOk Tryz.prog tab.tabs s := sums_ok more1_ok ms1_35_ok (by kernel_rfl)
theorem all_ms1_36 : ∀ s ∈ ms1_36, SumIOk Tryz.prog tab.tabs s := sums_ok more1_ok ms1_36_ok (by kernel_rfl)
theorem all_ms1_37 : ∀ s ∈ ms1_37, SumIOk Tryz.prog tab.tabs s := sums_ok more1_ok ms1_37_ok (by kernel_rfl)
theorem all_ms1_38 : ∀ s ∈ ms1_38, SumIOk Tryz.prog tab.tabs s := sums_ok more1_ok ms1_38_ok (by kernel_rfl)
theorem all_ms1_39 : ∀ s ∈ ms1_39, SumIOk Tryz.prog tab.tabs s := sums_ok more1_ok ms1_39_ok (by kernel_rfl)
theorem all_ms1_40 : ∀ s ∈ ms1_40, SumIOk Tryz.prog tab.tabs s := sums_ok more1_ok ms1_40_ok (by kernel_rfl)
theorem all_ms1_41 : ∀ s ∈ ms1_41, SumIOk Tryz.prog tab.tabs s := sums_ok more1_ok ms1_41_ok (by kernel_rfl)
theorem all_ms1_42 : ∀ s ∈ ms1_42, SumIOk Tryz.prog tab.tabs s := sums_ok more1_ok ms1_42_ok (by kernel_rfl)
theorem all_ms1_43 : ∀ s ∈ ms1_43, SumIOk Tryz.prog tab.tabs s := sums_ok more1_ok ms1_43_ok (by kernel_rfl)
theorem all_ms1_44 : ∀ s ∈ ms1_44, SumIOk Tryz.prog tab.tabs s := sums_ok more1_ok ms1_44_ok (by kernel_rfl)
theorem all_ms1_45 : ∀ s ∈ ms1_45, SumIOk Tryz.prog tab.tabs s := sums_ok more1_ok ms1_45_ok (by kernel_rfl)
theorem all_ms1_46 : ∀ s ∈ ms1_46, SumIOk Tryz.prog tab.tabs s := sums_ok more1_ok ms1_46_ok (by kernel_rfl)
theorem all_ms1_47 : ∀ s ∈ ms1_47, SumIOk Tryz.prog tab.tabs s := sums_ok more1_ok ms1_47_ok (by kernel_rfl)
theorem msel2_ok : ∀ f, ∀ s ∈ msel2 f, SumIOk Tryz.prog tab.tabs s := fun f s hs => by
  unfold msel2 at hs
  cases h : Nat.beq f 47 with
  | true =>
    rw [h, cond_true] at hs
    simp only [List.mem_append] at hs
    rcases hs with ((((((((((((((((((((((((((((((((((((((((((((((hs | hs) | hs) | hs) | hs) | hs) | hs) | hs) | hs) | hs) | hs) | hs) | hs) | hs) | hs) | hs) | hs) | hs) | hs) | hs) | hs) | hs) | hs) | hs) | hs) | hs) | hs) | hs) | hs) | hs) | hs) | hs) | hs) | hs) | hs) | hs) | hs) | hs) | hs) | hs) | hs) | hs) | hs) | hs) | hs) | hs) | hs) | hs
    · exact all_ms1_0 s hs
    · exact all_ms1_1 s hs
    · exact all_ms1_2 s hs
    · exact all_ms1_3 s hs
    · exact all_ms1_4 s hs
    · exact all_ms1_5 s hs
    · exact all_ms1_6 s hs
    · exact all_ms1_7 s hs
    · exact all_ms1_8 s hs
    · exact all_ms1_9 s hs
    · exact all_ms1_10 s hs
    · exact all_ms1_11 s hs
    · exact all_ms1_12 s hs
    · exact all_ms1_13 s hs
    · exact all_ms1_14 s hs
    · exact all_ms1_15 s hs
    · exact all_ms1_16 s hs
    · exact all_ms1_17 s hs
    · exact all_ms1_18 s hs
    · exact all_ms1_19 s hs
    · exact all_ms1_20 s hs
    · exact all_ms1_21 s hs
    · exact all_ms1_22 s hs
    · exact all_ms1_23 s hs
    · exact all_ms1_24 s hs
    · exact all_ms1_25 s hs
    · exact all_ms1_26 s hs
    · exact all_ms1_27 s hs
    · exact all_ms1_28 s hs
    · exact all_ms1_29 s hs
    · exact all_ms1_30 s hs
    · exact all_ms1_31 s hs
    · exact all_ms1_32 s hs
    · exact all_ms1_33 s hs
    · exact all_ms1_34 s hs
    · exact all_ms1_35 s hs
    · exact all_ms1_36 s hs
    · exact all_ms1_37 s hs
    · exact all_ms1_38 s hs
    · exact all_ms1_39 s hs
    · exact all_ms1_40 s hs
    · exact all_ms1_41 s hs
    · exact all_ms1_42 s hs
    · exact all_ms1_43 s hs
    · exact all_ms1_44 s hs
    · exact all_ms1_45 s hs
    · exact all_ms1_46 s hs
    · exact all_ms1_47 s hs
  | false =>
    rw [h, cond_false] at hs
    exact msel1_ok f s hs
theorem more2_ok : CallOk Tryz.prog more2 := orKnown_ok knF_ok (byFn_ok tab.tabs_ok tab.tabs_low msel2_ok)
theorem all_ms2_0 : ∀ s ∈ ms2_0, SumIOk Tryz.prog tab.tabs s := sums_ok more2_ok ms2_0_ok (by kernel_rfl)
theorem all_ms2_1 : ∀ s ∈ ms2_1, SumIOk Tryz.prog tab.tabs s := sums_ok more2_ok ms2_1_ok (by kernel_rfl)
theorem all_ms2_2 : ∀ s ∈ ms2_2, SumIOk Tryz.prog tab.tabs s := sums_ok more2_ok ms2_2_ok (by kernel_rfl)
theorem all_ms2_3 : ∀ s ∈ ms2_3, SumIOk Tryz.prog tab.tabs s := sums_ok more2_ok ms2_3_ok (by kernel_rfl)
theorem msel3_ok : ∀ f, ∀ s ∈ msel3 f, SumIOk Tryz.prog tab.tabs s := fun f s hs => by
  unfold msel3 at hs
  cases h : Nat.beq f 22 with
  | true =>
    rw [h, cond_true] at hs
    simp only [List.mem_append] at hs
    rcases hs with ((hs | hs) | hs) | hs
    · exact all_ms2_0 s hs
    · exact all_ms2_1 s hs
    · exact all_ms2_2 s hs
    · exact all_ms2_3 s hs
  | false =>
    rw [h, cond_false] at hs
    exact msel2_ok f s hs
theorem more3_ok : CallOk Tryz.prog more3 := orKnown_ok knF_ok (byFn_ok tab.tabs_ok tab.tabs_low msel3_ok)
theorem all_ms3_0 : ∀ s ∈ ms3_0, SumIOk Tryz.prog tab.tabs s := sums_ok more3_ok ms3_0_ok (by kernel_rfl)
theorem msel4_ok : ∀ f, ∀ s ∈ msel4 f, SumIOk Tryz.prog tab.tabs s := fun f s hs => by
  unfold msel4 at hs
  cases h : Nat.beq f 6 with
  | true =>
    rw [h, cond_true] at hs
    exact all_ms3_0 s hs
  | false =>
    rw [h, cond_false] at hs
    exact msel3_ok f s hs
theorem more4_ok : CallOk Tryz.prog more4 := orKnown_ok knF_ok (byFn_ok tab.tabs_ok tab.tabs_low msel4_ok)
theorem all_ms4_0 : ∀ s ∈ ms4_0, SumIOk Tryz.prog tab.tabs s := sums_ok more4_ok ms4_0_ok (by kernel_rfl)
theorem msel5_ok : ∀ f, ∀ s ∈ msel5 f, SumIOk Tryz.prog tab.tabs s := fun f s hs => by
  unfold msel5 at hs
  cases h : Nat.beq f 11 with
  | true =>
    rw [h, cond_true] at hs
    exact all_ms4_0 s hs
  | false =>
    rw [h, cond_false] at hs
    exact msel4_ok f s hs
theorem more5_ok : CallOk Tryz.prog more5 := orKnown_ok knF_ok (byFn_ok tab.tabs_ok tab.tabs_low msel5_ok)
theorem all_ms5_0 : ∀ s ∈ ms5_0, SumIOk Tryz.prog tab.tabs s := sums_ok more5_ok ms5_0_ok (by kernel_rfl)
theorem msel6_ok : ∀ f, ∀ s ∈ msel6 f, SumIOk Tryz.prog tab.tabs s := fun f s hs => by
  unfold msel6 at hs
  cases h : Nat.beq f 29 with
  | true =>
    rw [h, cond_true] at hs
    exact all_ms5_0 s hs
  | false =>
    rw [h, cond_false] at hs
    exact msel5_ok f s hs
theorem more6_ok : CallOk Tryz.prog more6 := orKnown_ok knF_ok (byFn_ok tab.tabs_ok tab.tabs_low msel6_ok)
theorem all_ms6_0 : ∀ s ∈ ms6_0, SumIOk Tryz.prog tab.tabs s := sums_ok more6_ok ms6_0_ok (by kernel_rfl)
theorem all_ms6_1 : ∀ s ∈ ms6_1, SumIOk Tryz.prog tab.tabs s := sums_ok more6_ok ms6_1_ok (by kernel_rfl)
theorem all_ms6_2 : ∀ s ∈ ms6_2, SumIOk Tryz.prog tab.tabs s := sums_ok more6_ok ms6_2_ok (by kernel_rfl)
theorem msel7_ok : ∀ f, ∀ s ∈ msel7 f, SumIOk Tryz.prog tab.tabs s := fun f s hs => by
  unfold msel7 at hs
  cases h : Nat.beq f 51 with
  | true =>
    rw [h, cond_true] at hs
    simp only [List.mem_append] at hs
    rcases hs with (hs | hs) | hs
    · exact all_ms6_0 s hs
    · exact all_ms6_1 s hs
    · exact all_ms6_2 s hs
  | false =>
    rw [h, cond_false] at hs
    exact msel6_ok f s hs
theorem more7_ok : CallOk Tryz.prog more7 := orKnown_ok knF_ok (byFn_ok tab.tabs_ok tab.tabs_low msel7_ok)
end Go.Proofs.YtdnngempkifclaaGreatDoor.code
