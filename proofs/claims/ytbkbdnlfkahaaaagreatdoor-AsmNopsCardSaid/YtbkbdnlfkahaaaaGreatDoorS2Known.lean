/- What is known ahead of the closed runs. -/
import Derived.Test.YtbkbdnlfkahaaaaGreatDoorS1Laid
import Derived.Test.YtbkbdnlfkahaaaaGreatDoorS0PA
import Derived.Test.YtbkbdnlfkahaaaaGreatDoorS0PB
import Derived.Test.YtbkbdnlfkahaaaaGreatDoorS0PC
namespace Go.Proofs.YtbkbdnlfkahaaaaGreatDoor.tab
open Go.ChangeShapes Go.WideShapes Go.ChangeAt Go.RowKit
set_option maxRecDepth 100000
theorem ext451 : Ab.IsExt Tryz.prog 451 .count := ⟨Tryz.f451, Tryz.func451, by kernel_rfl, by kernel_rfl, by kernel_rfl, by kernel_rfl⟩
theorem ext377 : Ab.IsExt Tryz.prog 377 .indexByte := ⟨Tryz.f377, Tryz.func377, by kernel_rfl, by kernel_rfl, by kernel_rfl, by kernel_rfl⟩
theorem ext250 : Ab.IsExt Tryz.prog 250 .add64 := ⟨Tryz.f250, Tryz.func250, by kernel_rfl, by kernel_rfl, by kernel_rfl, by kernel_rfl⟩
theorem xt_ok : Ab.CallOk Tryz.prog (Ab.xknown xt) := Ab.xknown_ok fun f k h => by
  unfold xt at h
  cases h451 : Nat.beq f 451 with
  | true =>
    rw [h451] at h
    cases h
    obtain rfl := Nat.eq_of_beq_eq_true h451
    exact ext451
  | false =>
    rw [h451] at h
    cases h377 : Nat.beq f 377 with
    | true =>
      rw [h377] at h
      cases h
      obtain rfl := Nat.eq_of_beq_eq_true h377
      exact ext377
    | false =>
      rw [h377] at h
      cases h250 : Nat.beq f 250 with
      | true =>
        rw [h250] at h
        cases h
        obtain rfl := Nat.eq_of_beq_eq_true h250
        exact ext250
      | false =>
        rw [h250] at h
        cases h

theorem tabs_low : ∀ t ∈ tabs, t.id < Tryz.prog.globals.size := by
  have h : (tabs.all fun t => Nat.blt t.id Tryz.prog.globals.size) = true := by kernel_rfl
  intro t ht
  have := List.all_eq_true.1 h t ht
  simpa using this
theorem sums_ok {kn : Ab.CallF} (hk : Ab.CallOk Tryz.prog kn) {l : List Ab.SumI} (h : okAllI kn l = true) (he : (l.all fun s => Ab.entered Tryz.prog s.f) = true) : ∀ s ∈ l, Ab.SumIOk Tryz.prog tabs s := fun s hs =>
  Ab.sumI_ok hk (List.all_eq_true.1 he s hs) (List.all_eq_true.1 h s hs)
theorem sel0_ok : ∀ f, ∀ s ∈ sel0 f, Ab.SumIOk Tryz.prog tabs s := fun f s hs => by cases hs
theorem all_sums0_0 : ∀ s ∈ sums0_0, Ab.SumIOk Tryz.prog tabs s := sums_ok xt_ok sums0_0_ok (by kernel_rfl)
theorem all_sums0_1 : ∀ s ∈ sums0_1, Ab.SumIOk Tryz.prog tabs s := sums_ok xt_ok sums0_1_ok (by kernel_rfl)
theorem all_sums0_2 : ∀ s ∈ sums0_2, Ab.SumIOk Tryz.prog tabs s := sums_ok xt_ok sums0_2_ok (by kernel_rfl)
theorem all_sums0_3 : ∀ s ∈ sums0_3, Ab.SumIOk Tryz.prog tabs s := sums_ok xt_ok sums0_3_ok (by kernel_rfl)
theorem sel1_ok : ∀ f, ∀ s ∈ sel1 f, Ab.SumIOk Tryz.prog tabs s := fun f s hs => by
  unfold sel1 at hs
  cases h : Nat.beq f 286 with
  | true =>
    rw [h, cond_true] at hs
    simp only [List.mem_append] at hs
    rcases hs with ((hs | hs) | hs) | hs
    · exact all_sums0_0 s hs
    · exact all_sums0_1 s hs
    · exact all_sums0_2 s hs
    · exact all_sums0_3 s hs
  | false =>
    rw [h, cond_false] at hs
    exact sel0_ok f s hs
theorem kn1_ok : Ab.CallOk Tryz.prog kn1 := Ab.orKnown_ok xt_ok (Ab.byFn_ok tabs_ok tabs_low sel1_ok)
theorem all_sums1_0 : ∀ s ∈ sums1_0, Ab.SumIOk Tryz.prog tabs s := sums_ok kn1_ok sums1_0_ok (by kernel_rfl)
theorem sel2_ok : ∀ f, ∀ s ∈ sel2 f, Ab.SumIOk Tryz.prog tabs s := fun f s hs => by
  unfold sel2 at hs
  cases h : Nat.beq f 349 with
  | true =>
    rw [h, cond_true] at hs
    exact all_sums1_0 s hs
  | false =>
    rw [h, cond_false] at hs
    exact sel1_ok f s hs
theorem kn2_ok : Ab.CallOk Tryz.prog kn2 := Ab.orKnown_ok xt_ok (Ab.byFn_ok tabs_ok tabs_low sel2_ok)
theorem all_sums2_0 : ∀ s ∈ sums2_0, Ab.SumIOk Tryz.prog tabs s := sums_ok kn2_ok sums2_0_ok (by kernel_rfl)
theorem all_sums2_1 : ∀ s ∈ sums2_1, Ab.SumIOk Tryz.prog tabs s := sums_ok kn2_ok sums2_1_ok (by kernel_rfl)
theorem all_sums2_2 : ∀ s ∈ sums2_2, Ab.SumIOk Tryz.prog tabs s := sums_ok kn2_ok sums2_2_ok (by kernel_rfl)
theorem all_sums2_3 : ∀ s ∈ sums2_3, Ab.SumIOk Tryz.prog tabs s := sums_ok kn2_ok sums2_3_ok (by kernel_rfl)
theorem all_sums2_4 : ∀ s ∈ sums2_4, Ab.SumIOk Tryz.prog tabs s := sums_ok kn2_ok sums2_4_ok (by kernel_rfl)
theorem all_sums2_5 : ∀ s ∈ sums2_5, Ab.SumIOk Tryz.prog tabs s := sums_ok kn2_ok sums2_5_ok (by kernel_rfl)
theorem all_sums2_6 : ∀ s ∈ sums2_6, Ab.SumIOk Tryz.prog tabs s := sums_ok kn2_ok sums2_6_ok (by kernel_rfl)
theorem all_sums2_7 : ∀ s ∈ sums2_7, Ab.SumIOk Tryz.prog tabs s := sums_ok kn2_ok sums2_7_ok (by kernel_rfl)
theorem sel3_ok : ∀ f, ∀ s ∈ sel3 f, Ab.SumIOk Tryz.prog tabs s := fun f s hs => by
  unfold sel3 at hs
  cases h : Nat.beq f 283 with
  | true =>
    rw [h, cond_true] at hs
    simp only [List.mem_append] at hs
    rcases hs with ((((((hs | hs) | hs) | hs) | hs) | hs) | hs) | hs
    · exact all_sums2_0 s hs
    · exact all_sums2_1 s hs
    · exact all_sums2_2 s hs
    · exact all_sums2_3 s hs
    · exact all_sums2_4 s hs
    · exact all_sums2_5 s hs
    · exact all_sums2_6 s hs
    · exact all_sums2_7 s hs
  | false =>
    rw [h, cond_false] at hs
    exact sel2_ok f s hs
theorem kn3_ok : Ab.CallOk Tryz.prog kn3 := Ab.orKnown_ok xt_ok (Ab.byFn_ok tabs_ok tabs_low sel3_ok)
theorem all_sums3_0 : ∀ s ∈ sums3_0, Ab.SumIOk Tryz.prog tabs s := sums_ok kn3_ok sums3_0_ok (by kernel_rfl)
theorem sel4_ok : ∀ f, ∀ s ∈ sel4 f, Ab.SumIOk Tryz.prog tabs s := fun f s hs => by
  unfold sel4 at hs
  cases h : Nat.beq f 235 with
  | true =>
    rw [h, cond_true] at hs
    exact all_sums3_0 s hs
  | false =>
    rw [h, cond_false] at hs
    exact sel3_ok f s hs
theorem kn4_ok : Ab.CallOk Tryz.prog kn4 := Ab.orKnown_ok xt_ok (Ab.byFn_ok tabs_ok tabs_low sel4_ok)
theorem all_sums4_0 : ∀ s ∈ sums4_0, Ab.SumIOk Tryz.prog tabs s := sums_ok kn4_ok sums4_0_ok (by kernel_rfl)
theorem sel5_ok : ∀ f, ∀ s ∈ sel5 f, Ab.SumIOk Tryz.prog tabs s := fun f s hs => by
  unfold sel5 at hs
  cases h : Nat.beq f 236 with
  | true =>
    rw [h, cond_true] at hs
    exact all_sums4_0 s hs
  | false =>
    rw [h, cond_false] at hs
    exact sel4_ok f s hs
theorem kn5_ok : Ab.CallOk Tryz.prog kn5 := Ab.orKnown_ok xt_ok (Ab.byFn_ok tabs_ok tabs_low sel5_ok)
theorem all_sums5_0 : ∀ s ∈ sums5_0, Ab.SumIOk Tryz.prog tabs s := sums_ok kn5_ok sums5_0_ok (by kernel_rfl)
theorem sel6_ok : ∀ f, ∀ s ∈ sel6 f, Ab.SumIOk Tryz.prog tabs s := fun f s hs => by
  unfold sel6 at hs
  cases h : Nat.beq f 237 with
  | true =>
    rw [h, cond_true] at hs
    exact all_sums5_0 s hs
  | false =>
    rw [h, cond_false] at hs
    exact sel5_ok f s hs
theorem kn6_ok : Ab.CallOk Tryz.prog kn6 := Ab.orKnown_ok xt_ok (Ab.byFn_ok tabs_ok tabs_low sel6_ok)
theorem all_sums6_0 : ∀ s ∈ sums6_0, Ab.SumIOk Tryz.prog tabs s := sums_ok kn6_ok sums6_0_ok (by kernel_rfl)
theorem sel7_ok : ∀ f, ∀ s ∈ sel7 f, Ab.SumIOk Tryz.prog tabs s := fun f s hs => by
  unfold sel7 at hs
  cases h : Nat.beq f 238 with
  | true =>
    rw [h, cond_true] at hs
    exact all_sums6_0 s hs
  | false =>
    rw [h, cond_false] at hs
    exact sel6_ok f s hs
theorem kn7_ok : Ab.CallOk Tryz.prog kn7 := Ab.orKnown_ok xt_ok (Ab.byFn_ok tabs_ok tabs_low sel7_ok)
theorem all_sums7_0 : ∀ s ∈ sums7_0, Ab.SumIOk Tryz.prog tabs s := sums_ok kn7_ok sums7_0_ok (by kernel_rfl)
theorem sel8_ok : ∀ f, ∀ s ∈ sel8 f, Ab.SumIOk Tryz.prog tabs s := fun f s hs => by
  unfold sel8 at hs
  cases h : Nat.beq f 239 with
  | true =>
    rw [h, cond_true] at hs
    exact all_sums7_0 s hs
  | false =>
    rw [h, cond_false] at hs
    exact sel7_ok f s hs
theorem kn8_ok : Ab.CallOk Tryz.prog kn8 := Ab.orKnown_ok xt_ok (Ab.byFn_ok tabs_ok tabs_low sel8_ok)
theorem all_sums8_0 : ∀ s ∈ sums8_0, Ab.SumIOk Tryz.prog tabs s := sums_ok kn8_ok sums8_0_ok (by kernel_rfl)
theorem sel9_ok : ∀ f, ∀ s ∈ sel9 f, Ab.SumIOk Tryz.prog tabs s := fun f s hs => by
  unfold sel9 at hs
  cases h : Nat.beq f 240 with
  | true =>
    rw [h, cond_true] at hs
    exact all_sums8_0 s hs
  | false =>
    rw [h, cond_false] at hs
    exact sel8_ok f s hs
theorem kn9_ok : Ab.CallOk Tryz.prog kn9 := Ab.orKnown_ok xt_ok (Ab.byFn_ok tabs_ok tabs_low sel9_ok)
end Go.Proofs.YtbkbdnlfkahaaaaGreatDoor.tab
