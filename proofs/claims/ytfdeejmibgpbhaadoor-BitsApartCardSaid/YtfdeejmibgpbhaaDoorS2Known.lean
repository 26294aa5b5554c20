/- The laws BitsRows and BitsKnown return true: closed runs, over a memory that holds the listed tables. -/
import Derived.Test.YtfdeejmibgpbhaaDoorS1Laid
namespace Go.Proofs.YtfdeejmibgpbhaaDoor.bits
open Go.ChangeShapes Go.WideShapes Go.ChangeAt Go.RowKit
set_option maxRecDepth 100000

theorem ext66 : Ab.IsExt Tryd.prog 66 .count := ⟨Tryd.f66, Tryd.func66, by kernel_rfl, by kernel_rfl, by kernel_rfl, by kernel_rfl⟩
theorem ext82 : Ab.IsExt Tryd.prog 82 .indexByte := ⟨Tryd.f82, Tryd.func82, by kernel_rfl, by kernel_rfl, by kernel_rfl, by kernel_rfl⟩
theorem xt_ok : Ab.CallOk Tryd.prog (Ab.xknown xt) := Ab.xknown_ok fun f k h => by
  unfold xt at h
  cases h1 : Nat.beq f 66 with
  | true =>
    rw [h1] at h
    cases h
    obtain rfl := Nat.eq_of_beq_eq_true h1
    exact ext66
  | false =>
    rw [h1] at h
    cases h2 : Nat.beq f 82 with
    | true =>
      rw [h2] at h
      cases h
      obtain rfl := Nat.eq_of_beq_eq_true h2
      exact ext82
    | false => rw [h2] at h; cases h

theorem sums_ok {kn : Ab.CallF} (hk : Ab.CallOk Tryd.prog kn) {l : List Ab.Sum_} (h : okAll kn l = true) (he : (l.all fun s => Ab.entered Tryd.prog s.f && s.args.all Ab.plain) = true) : ∀ s ∈ l, Ab.SumOk Tryd.prog tabs s := fun s hs => by
  have h1 := List.all_eq_true.1 h s hs
  have h2 := List.all_eq_true.1 he s hs
  simp only [Bool.and_eq_true] at h2
  exact ⟨h2.1, fun H hH => Ab.sum_does hk h2.1 h2.2 tabs_ok h1 H hH⟩

theorem kn1_ok : Ab.CallOk Tryd.prog kn1 := Ab.orKnown_ok xt_ok (Ab.sknown_ok fun s hs => by
  simp only [List.mem_append] at hs
  rcases hs with (hs | hs) | hs
  · exact sums_ok xt_ok numbers_ok (by kernel_rfl) s hs
  · exact sums_ok xt_ok fields0_ok (by kernel_rfl) s hs
  · exact sums_ok xt_ok fields1_ok (by kernel_rfl) s hs)

/-- Known from here on: both tables of rows. -/
noncomputable def kn2 : Ab.CallF := Ab.orKnown (Ab.xknown xt) (fun f args H => Ab.sknown Tryd.prog.globals.size tabs f args H (rows ++ refRows))
theorem kn2_ok : Ab.CallOk Tryd.prog kn2 := Ab.orKnown_ok xt_ok (Ab.sknown_ok fun s hs => by
  simp only [List.mem_append] at hs
  rcases hs with hs | hs
  · exact sums_ok kn1_ok rows_ok (by kernel_rfl) s hs
  · exact sums_ok xt_ok refRows_ok (by kernel_rfl) s hs)

theorem ran3 : Ab.isTrue (Ab.run Tryd.prog kn2 100000 5 50 3 [] (Ab.tabHeap Tryd.prog.globals.size tabs)) = true := by kernel_rfl
theorem ran5 : Ab.isTrue (Ab.run Tryd.prog kn2 100000 5 50 5 [] (Ab.tabHeap Tryd.prog.globals.size tabs)) = true := by kernel_rfl
end Go.Proofs.YtfdeejmibgpbhaaDoor.bits
