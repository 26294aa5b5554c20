/- What is known ahead of the closed runs. -/
import Derived.Test.YtdjkkoacinpdeaaDoorS1Laid
namespace Go.Proofs.YtdjkkoacinpdeaaDoor.printk
open Go.ChangeShapes Go.WideShapes Go.ChangeAt Go.RowKit
set_option maxRecDepth 100000
theorem ext81 : Ab.IsExt Tryd.prog 81 .indexByte := ⟨Tryd.f81, Tryd.func81, by kernel_rfl, by kernel_rfl, by kernel_rfl, by kernel_rfl⟩
theorem ext55 : Ab.IsExt Tryd.prog 55 .noEscape := ⟨Tryd.f55, Tryd.func55, by kernel_rfl, by kernel_rfl, by kernel_rfl, by kernel_rfl⟩
theorem xt_ok : Ab.CallOk Tryd.prog (Ab.xknown xt) := Ab.xknown_ok fun f k h => by
  unfold xt at h
  cases h81 : Nat.beq f 81 with
  | true =>
    rw [h81] at h
    cases h
    obtain rfl := Nat.eq_of_beq_eq_true h81
    exact ext81
  | false =>
    rw [h81] at h
    cases h55 : Nat.beq f 55 with
    | true =>
      rw [h55] at h
      cases h
      obtain rfl := Nat.eq_of_beq_eq_true h55
      exact ext55
    | false =>
      rw [h55] at h
      cases h

theorem sums_ok {kn : Ab.CallF} (hk : Ab.CallOk Tryd.prog kn) {l : List Ab.Sum_} (h : okAll kn l = true) (he : (l.all fun s => Ab.entered Tryd.prog s.f && s.args.all Ab.closedV) = true) : ∀ s ∈ l, Ab.SumOk Tryd.prog tabs s := fun s hs => by
  have h1 := List.all_eq_true.1 h s hs
  have h2 := List.all_eq_true.1 he s hs
  simp only [Bool.and_eq_true] at h2
  exact ⟨h2.1, fun H hH => Ab.sum_does hk h2.1 h2.2 tabs_ok h1 H hH⟩
theorem all0 : ∀ s ∈ sums0, Ab.SumOk Tryd.prog tabs s := sums_ok xt_ok sums0_ok (by kernel_rfl)
theorem kn1_ok : Ab.CallOk Tryd.prog kn1 := Ab.orKnown_ok xt_ok (Ab.sknown_ok fun s hs => by
  exact all0 s hs)
end Go.Proofs.YtdjkkoacinpdeaaDoor.printk
