/- What is known ahead of the closed runs. -/
import Derived.Test.YtgbdkammehhchaaDoorS1Laid
namespace Go.Proofs.YtgbdkammehhchaaDoor.listk
open Go.ChangeShapes Go.WideShapes Go.ChangeAt Go.RowKit
set_option maxRecDepth 100000
theorem ext66 : Ab.IsExt Tryd.prog 66 .count := ⟨Tryd.f66, Tryd.func66, by kernel_rfl, by kernel_rfl, by kernel_rfl, by kernel_rfl⟩
theorem ext84 : Ab.IsExt Tryd.prog 84 .indexByte := ⟨Tryd.f84, Tryd.func84, by kernel_rfl, by kernel_rfl, by kernel_rfl, by kernel_rfl⟩
theorem ext47 : Ab.IsExt Tryd.prog 47 .noEscape := ⟨Tryd.f47, Tryd.func47, by kernel_rfl, by kernel_rfl, by kernel_rfl, by kernel_rfl⟩
theorem ext70 : Ab.IsExt Tryd.prog 70 .add64 := ⟨Tryd.f70, Tryd.func70, by kernel_rfl, by kernel_rfl, by kernel_rfl, by kernel_rfl⟩
theorem xt_ok : Ab.CallOk Tryd.prog (Ab.xknown xt) := Ab.xknown_ok fun f k h => by
  unfold xt at h
  cases h66 : Nat.beq f 66 with
  | true =>
    rw [h66] at h
    cases h
    obtain rfl := Nat.eq_of_beq_eq_true h66
    exact ext66
  | false =>
    rw [h66] at h
    cases h84 : Nat.beq f 84 with
    | true =>
      rw [h84] at h
      cases h
      obtain rfl := Nat.eq_of_beq_eq_true h84
      exact ext84
    | false =>
      rw [h84] at h
      cases h47 : Nat.beq f 47 with
      | true =>
        rw [h47] at h
        cases h
        obtain rfl := Nat.eq_of_beq_eq_true h47
        exact ext47
      | false =>
        rw [h47] at h
        cases h70 : Nat.beq f 70 with
        | true =>
          rw [h70] at h
          cases h
          obtain rfl := Nat.eq_of_beq_eq_true h70
          exact ext70
        | false =>
          rw [h70] at h
          cases h

theorem sums_ok {kn : Ab.CallF} (hk : Ab.CallOk Tryd.prog kn) {l : List Ab.Sum_} (h : okAll kn l = true) (he : (l.all fun s => Ab.entered Tryd.prog s.f && s.args.all Ab.closedV) = true) : ∀ s ∈ l, Ab.SumOk Tryd.prog tabs s := fun s hs => by
  have h1 := List.all_eq_true.1 h s hs
  have h2 := List.all_eq_true.1 he s hs
  simp only [Bool.and_eq_true] at h2
  exact ⟨h2.1, fun H hH => Ab.sum_does hk h2.1 h2.2 tabs_ok h1 H hH⟩
end Go.Proofs.YtgbdkammehhchaaDoor.listk
