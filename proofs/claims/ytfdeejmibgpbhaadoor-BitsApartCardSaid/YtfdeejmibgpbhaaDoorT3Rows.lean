/- The rows of both tables, as forms in memory. -/
import Derived.Test.YtfdeejmibgpbhaaDoorT2Forms
import Derived.Test.YtfdeejmibgpbhaaDoorS2Known
import Derived.ProofKit
import Derived.OpenShut
import Derived.ChangeOld
set_option linter.unusedVariables false
set_option linter.unusedSimpArgs false
set_option maxRecDepth 100000
namespace Go.Proofs.YtfdeejmibgpbhaaDoor.bits
open Go.Ab Go.ChangeShapes Go.WideShapes Go.ChangeAt Go.RowKit

/-- A form of a table: in which rows its own rows lie. -/
structure En where
  a : Nat
  b : Nat
  ca : Nat
  cb : Nat
  f : Fm
def En.loc (n : Nat) (e : En) : Lf := ⟨e.f, .slice (some ⟨n + e.a, 0, none⟩) e.f.shapes.length e.ca, .slice (some ⟨n + e.b, 0, none⟩) e.f.slots.length e.cb⟩
noncomputable def tabA : List En := [
  ⟨0, 1, UNK + 1, UNK + 1, ⟨116, 5, 1, 184, (-1), 0, 0, false, [2, 8], [1, 2]⟩⟩,
  ⟨2, 3, UNK + 1, UNK + 1, ⟨116, 4, 1, 184, (-1), 0, 0, false, [3, 9], [1, 2]⟩⟩,
  ⟨4, 5, UNK + 1, UNK + 1, ⟨116, 4, 1, 184, (-1), 1, 0, false, [4, 10], [1, 2]⟩⟩,
  ⟨6, 7, UNK + 1, UNK + 1, ⟨117, 5, 1, 189, (-1), 0, 0, false, [2, 8], [1, 2]⟩⟩,
  ⟨8, 9, UNK + 1, UNK + 1, ⟨117, 4, 1, 189, (-1), 0, 0, false, [3, 9], [1, 2]⟩⟩,
  ⟨10, 11, UNK + 1, UNK + 1, ⟨117, 4, 1, 189, (-1), 1, 0, false, [4, 10], [1, 2]⟩⟩,
  ⟨12, 13, UNK + 1, UNK + 1, ⟨118, 5, 1, 188, (-1), 0, 0, false, [2, 8], [1, 2]⟩⟩,
  ⟨14, 15, UNK + 1, UNK + 1, ⟨118, 4, 1, 188, (-1), 0, 0, false, [3, 9], [1, 2]⟩⟩,
  ⟨16, 17, UNK + 1, UNK + 1, ⟨118, 4, 1, 188, (-1), 1, 0, false, [4, 10], [1, 2]⟩⟩,
  ⟨18, 19, UNK + 1, UNK + 1, ⟨119, 0, 2, 242, (-1), 0, 0, true, [3, 3, 9], [1, 3, 2]⟩⟩,
  ⟨20, 21, UNK + 1, UNK + 1, ⟨119, 0, 2, 242, (-1), 1, 0, true, [4, 4, 10], [1, 3, 2]⟩⟩,
  ⟨22, 23, UNK + 1, UNK + 1, ⟨120, 0, 2, 247, (-1), 0, 0, true, [3, 9, 3], [1, 2, 3]⟩⟩,
  ⟨24, 25, UNK + 1, UNK + 1, ⟨120, 0, 2, 247, (-1), 1, 0, true, [4, 10, 4], [1, 2, 3]⟩⟩,
  ⟨26, 27, UNK + 1, UNK + 1, ⟨121, 0, 2, 243, 3, 0, 0, true, [3, 9], [3, 2]⟩⟩,
  ⟨28, 29, UNK + 1, UNK + 1, ⟨121, 0, 2, 243, 3, 1, 0, true, [4, 10], [3, 2]⟩⟩,
  ⟨30, 31, UNK + 1, UNK + 1, ⟨122, 0, 2, 243, 2, 0, 0, true, [3, 9], [3, 2]⟩⟩,
  ⟨32, 33, UNK + 1, UNK + 1, ⟨122, 0, 2, 243, 2, 1, 0, true, [4, 10], [3, 2]⟩⟩,
  ⟨34, 35, UNK + 1, UNK + 1, ⟨123, 0, 2, 243, 1, 0, 0, true, [3, 9], [3, 2]⟩⟩,
  ⟨36, 37, UNK + 1, UNK + 1, ⟨123, 0, 2, 243, 1, 1, 0, true, [4, 10], [3, 2]⟩⟩,
  ⟨38, 39, UNK + 1, UNK + 1, ⟨124, 0, 2, 245, (-1), 0, 0, true, [3, 9, 3], [1, 2, 3]⟩⟩,
  ⟨40, 41, UNK + 1, UNK + 1, ⟨124, 0, 2, 245, (-1), 1, 0, true, [4, 10, 4], [1, 2, 3]⟩⟩,
  ⟨42, 43, UNK + 1, UNK + 1, ⟨125, 2, 2, 245, (-1), 0, 0, true, [3, 3, 9], [1, 3, 2]⟩⟩,
  ⟨44, 45, UNK + 1, UNK + 1, ⟨125, 2, 2, 245, (-1), 1, 0, true, [4, 4, 10], [1, 3, 2]⟩⟩,
  ⟨46, 47, UNK + 1, UNK + 1, ⟨126, 4, 2, 245, (-1), 0, 0, true, [3, 3, 9], [1, 3, 2]⟩⟩,
  ⟨48, 49, UNK + 1, UNK + 1, ⟨126, 4, 2, 245, (-1), 1, 0, true, [4, 4, 10], [1, 3, 2]⟩⟩,
  ⟨50, 51, UNK + 1, UNK + 1, ⟨127, 2, 2, 246, (-1), 0, 0, true, [3, 3, 9], [1, 3, 2]⟩⟩,
  ⟨52, 53, UNK + 1, UNK + 1, ⟨127, 2, 2, 246, (-1), 1, 0, true, [4, 4, 10], [1, 3, 2]⟩⟩,
  ⟨54, 55, UNK + 1, UNK + 1, ⟨128, 2, 3, 240, (-1), 0, 0, true, [3, 9, 20], [1, 2, 5]⟩⟩,
  ⟨56, 57, UNK + 1, UNK + 1, ⟨128, 2, 3, 240, (-1), 1, 0, true, [4, 10, 20], [1, 2, 5]⟩⟩,
  ⟨58, 59, UNK + 1, UNK + 1, ⟨129, 4, 2, 247, (-1), 0, 0, true, [3, 9, 3], [1, 2, 3]⟩⟩,
  ⟨60, 61, UNK + 1, UNK + 1, ⟨129, 4, 2, 247, (-1), 1, 0, true, [4, 10, 4], [1, 2, 3]⟩⟩,
  ⟨62, 63, UNK + 1, UNK + 1, ⟨130, 1, 2, 247, (-1), 0, 0, true, [3, 9, 3], [1, 2, 3]⟩⟩,
  ⟨64, 65, UNK + 1, UNK + 1, ⟨130, 1, 2, 247, (-1), 1, 0, true, [4, 10, 4], [1, 2, 3]⟩⟩,
  ⟨66, 67, UNK + 1, UNK + 1, ⟨131, 2, 2, 247, (-1), 0, 0, true, [3, 9, 3], [1, 2, 3]⟩⟩,
  ⟨68, 69, UNK + 1, UNK + 1, ⟨131, 2, 2, 247, (-1), 1, 0, true, [4, 10, 4], [1, 2, 3]⟩⟩,
  ⟨70, 71, UNK + 1, UNK + 1, ⟨132, 1, 2, 246, (-1), 0, 0, false, [3, 9], [1, 2]⟩⟩,
  ⟨72, 73, UNK + 1, UNK + 1, ⟨132, 1, 2, 246, (-1), 1, 0, false, [4, 10], [1, 2]⟩⟩,
  ⟨74, 75, UNK + 1, UNK + 1, ⟨133, 4, 2, 246, (-1), 0, 0, false, [3, 9], [1, 2]⟩⟩,
  ⟨76, 77, UNK + 1, UNK + 1, ⟨133, 4, 2, 246, (-1), 1, 0, false, [4, 10], [1, 2]⟩⟩,
  ⟨78, 79, UNK + 1, UNK + 1, ⟨134, 1, 2, 240, (-1), 0, 0, false, [2, 34], [1, 2]⟩⟩,
  ⟨80, 81, UNK + 1, UNK + 1, ⟨134, 0, 2, 240, (-1), 0, 0, false, [3, 16], [1, 2]⟩⟩,
  ⟨82, 83, UNK + 1, UNK + 1, ⟨134, 0, 2, 240, (-1), 1, 0, false, [4, 17], [1, 2]⟩⟩,
  ⟨84, 85, UNK + 1, UNK + 1, ⟨134, 1, 2, 241, (-1), 0, 0, false, [34, 2], [2, 1]⟩⟩,
  ⟨86, 87, UNK + 1, UNK + 1, ⟨134, 0, 2, 241, (-1), 0, 0, false, [16, 3], [2, 1]⟩⟩,
  ⟨88, 89, UNK + 1, UNK + 1, ⟨134, 0, 2, 241, (-1), 1, 0, false, [17, 4], [2, 1]⟩⟩,
  ⟨90, 91, UNK + 1, UNK + 1, ⟨135, 2, 2, 240, (-1), 0, 0, false, [3, 7], [1, 2]⟩⟩,
  ⟨92, 93, UNK + 1, UNK + 1, ⟨135, 2, 2, 240, (-1), 1, 0, false, [4, 7], [1, 2]⟩⟩,
  ⟨94, 95, UNK + 1, UNK + 1, ⟨135, 3, 2, 241, (-1), 0, 0, false, [3, 8], [1, 2]⟩⟩,
  ⟨96, 97, UNK + 1, UNK + 1, ⟨135, 2, 2, 241, (-1), 0, 0, false, [3, 9], [1, 2]⟩⟩,
  ⟨98, 99, UNK + 1, UNK + 1, ⟨135, 2, 2, 241, (-1), 1, 0, false, [4, 10], [1, 2]⟩⟩]
-- row 100
noncomputable def tabB : List En := [
  ⟨0, 1, UNK + 1, UNK + 1, ⟨116, 5, 1, 184, (-1), 0, 0, false, [2, 8], [1, 2]⟩⟩,
  ⟨2, 3, UNK + 1, UNK + 1, ⟨116, 4, 1, 184, (-1), 0, 0, false, [3, 9], [1, 2]⟩⟩,
  ⟨4, 5, UNK + 1, UNK + 1, ⟨116, 4, 1, 184, (-1), 1, 0, false, [4, 10], [1, 2]⟩⟩,
  ⟨6, 7, UNK + 1, UNK + 1, ⟨117, 5, 1, 189, (-1), 0, 0, false, [2, 8], [1, 2]⟩⟩,
  ⟨8, 9, UNK + 1, UNK + 1, ⟨117, 4, 1, 189, (-1), 0, 0, false, [3, 9], [1, 2]⟩⟩,
  ⟨10, 11, UNK + 1, UNK + 1, ⟨117, 4, 1, 189, (-1), 1, 0, false, [4, 10], [1, 2]⟩⟩,
  ⟨12, 13, UNK + 1, UNK + 1, ⟨118, 5, 1, 188, (-1), 0, 0, false, [2, 8], [1, 2]⟩⟩,
  ⟨14, 15, UNK + 1, UNK + 1, ⟨118, 4, 1, 188, (-1), 0, 0, false, [3, 9], [1, 2]⟩⟩,
  ⟨16, 17, UNK + 1, UNK + 1, ⟨118, 4, 1, 188, (-1), 1, 0, false, [4, 10], [1, 2]⟩⟩,
  ⟨18, 19, UNK + 1, UNK + 1, ⟨119, 0, 2, 242, (-1), 0, 0, true, [3, 3, 9], [1, 3, 2]⟩⟩,
  ⟨20, 21, UNK + 1, UNK + 1, ⟨119, 0, 2, 242, (-1), 1, 0, true, [4, 4, 10], [1, 3, 2]⟩⟩,
  ⟨22, 23, UNK + 1, UNK + 1, ⟨120, 0, 2, 247, (-1), 0, 0, true, [3, 9, 3], [1, 2, 3]⟩⟩,
  ⟨24, 25, UNK + 1, UNK + 1, ⟨120, 0, 2, 247, (-1), 1, 0, true, [4, 10, 4], [1, 2, 3]⟩⟩,
  ⟨26, 27, UNK + 1, UNK + 1, ⟨121, 0, 2, 243, 3, 0, 0, true, [3, 9], [3, 2]⟩⟩,
  ⟨28, 29, UNK + 1, UNK + 1, ⟨121, 0, 2, 243, 3, 1, 0, true, [4, 10], [3, 2]⟩⟩,
  ⟨30, 31, UNK + 1, UNK + 1, ⟨122, 0, 2, 243, 2, 0, 0, true, [3, 9], [3, 2]⟩⟩,
  ⟨32, 33, UNK + 1, UNK + 1, ⟨122, 0, 2, 243, 2, 1, 0, true, [4, 10], [3, 2]⟩⟩,
  ⟨34, 35, UNK + 1, UNK + 1, ⟨123, 0, 2, 243, 1, 0, 0, true, [3, 9], [3, 2]⟩⟩,
  ⟨36, 37, UNK + 1, UNK + 1, ⟨123, 0, 2, 243, 1, 1, 0, true, [4, 10], [3, 2]⟩⟩,
  ⟨38, 39, UNK + 1, UNK + 1, ⟨124, 0, 2, 245, (-1), 0, 0, true, [3, 9, 3], [1, 2, 3]⟩⟩,
  ⟨40, 41, UNK + 1, UNK + 1, ⟨124, 0, 2, 245, (-1), 1, 0, true, [4, 10, 4], [1, 2, 3]⟩⟩,
  ⟨42, 43, UNK + 1, UNK + 1, ⟨125, 2, 2, 245, (-1), 0, 0, true, [3, 3, 9], [1, 3, 2]⟩⟩,
  ⟨44, 45, UNK + 1, UNK + 1, ⟨125, 2, 2, 245, (-1), 1, 0, true, [4, 4, 10], [1, 3, 2]⟩⟩,
  ⟨46, 47, UNK + 1, UNK + 1, ⟨126, 4, 2, 245, (-1), 0, 0, true, [3, 3, 9], [1, 3, 2]⟩⟩,
  ⟨48, 49, UNK + 1, UNK + 1, ⟨126, 4, 2, 245, (-1), 1, 0, true, [4, 4, 10], [1, 3, 2]⟩⟩,
  ⟨50, 51, UNK + 1, UNK + 1, ⟨127, 2, 2, 246, (-1), 0, 0, true, [3, 3, 9], [1, 3, 2]⟩⟩,
  ⟨52, 53, UNK + 1, UNK + 1, ⟨127, 2, 2, 246, (-1), 1, 0, true, [4, 4, 10], [1, 3, 2]⟩⟩,
  ⟨54, 55, UNK + 1, UNK + 1, ⟨128, 2, 3, 240, (-1), 0, 0, true, [3, 9, 20], [1, 2, 5]⟩⟩,
  ⟨56, 57, UNK + 1, UNK + 1, ⟨128, 2, 3, 240, (-1), 1, 0, true, [4, 10, 20], [1, 2, 5]⟩⟩,
  ⟨58, 59, UNK + 1, UNK + 1, ⟨129, 4, 2, 247, (-1), 0, 0, true, [3, 9, 3], [1, 2, 3]⟩⟩,
  ⟨60, 61, UNK + 1, UNK + 1, ⟨129, 4, 2, 247, (-1), 1, 0, true, [4, 10, 4], [1, 2, 3]⟩⟩,
  ⟨62, 63, UNK + 1, UNK + 1, ⟨130, 1, 2, 247, (-1), 0, 0, true, [3, 9, 3], [1, 2, 3]⟩⟩,
  ⟨64, 65, UNK + 1, UNK + 1, ⟨130, 1, 2, 247, (-1), 1, 0, true, [4, 10, 4], [1, 2, 3]⟩⟩,
  ⟨66, 67, UNK + 1, UNK + 1, ⟨131, 2, 2, 247, (-1), 0, 0, true, [3, 9, 3], [1, 2, 3]⟩⟩,
  ⟨68, 69, UNK + 1, UNK + 1, ⟨131, 2, 2, 247, (-1), 1, 0, true, [4, 10, 4], [1, 2, 3]⟩⟩,
  ⟨70, 71, UNK + 1, UNK + 1, ⟨132, 1, 2, 246, (-1), 0, 0, false, [3, 9], [1, 2]⟩⟩,
  ⟨72, 73, UNK + 1, UNK + 1, ⟨132, 1, 2, 246, (-1), 1, 0, false, [4, 10], [1, 2]⟩⟩,
  ⟨74, 75, UNK + 1, UNK + 1, ⟨133, 4, 2, 246, (-1), 0, 0, false, [3, 9], [1, 2]⟩⟩,
  ⟨76, 77, UNK + 1, UNK + 1, ⟨133, 4, 2, 246, (-1), 1, 0, false, [4, 10], [1, 2]⟩⟩,
  ⟨78, 79, UNK + 1, UNK + 1, ⟨134, 1, 2, 240, (-1), 0, 0, false, [2, 34], [1, 2]⟩⟩,
  ⟨80, 81, UNK + 1, UNK + 1, ⟨134, 0, 2, 240, (-1), 0, 0, false, [3, 16], [1, 2]⟩⟩,
  ⟨82, 83, UNK + 1, UNK + 1, ⟨134, 0, 2, 240, (-1), 1, 0, false, [4, 17], [1, 2]⟩⟩,
  ⟨84, 85, UNK + 1, UNK + 1, ⟨134, 1, 2, 241, (-1), 0, 0, false, [34, 2], [2, 1]⟩⟩,
  ⟨86, 87, UNK + 1, UNK + 1, ⟨134, 0, 2, 241, (-1), 0, 0, false, [16, 3], [2, 1]⟩⟩,
  ⟨88, 89, UNK + 1, UNK + 1, ⟨134, 0, 2, 241, (-1), 1, 0, false, [17, 4], [2, 1]⟩⟩,
  ⟨90, 91, UNK + 1, UNK + 1, ⟨135, 2, 2, 240, (-1), 0, 0, false, [3, 7], [1, 2]⟩⟩,
  ⟨92, 93, UNK + 1, UNK + 1, ⟨135, 2, 2, 240, (-1), 1, 0, false, [4, 7], [1, 2]⟩⟩,
  ⟨94, 95, UNK + 1, UNK + 1, ⟨135, 3, 2, 241, (-1), 0, 0, false, [3, 8], [1, 2]⟩⟩,
  ⟨96, 97, UNK + 1, UNK + 1, ⟨135, 2, 2, 241, (-1), 0, 0, false, [3, 9], [1, 2]⟩⟩,
  ⟨98, 99, UNK + 1, UNK + 1, ⟨135, 2, 2, 241, (-1), 1, 0, false, [4, 10], [1, 2]⟩⟩]
-- row 100
noncomputable def rowIs (rs : List Row) (k : Nat) (c : List Value) : Bool := match rs[k]? with | some r => beqL (beqV 8) r.c c | none => false
theorem rowIs_get {rs : List Row} {k : Nat} {c : List Value} (h : rowIs rs k c = true) : ∃ r, rs[k]? = some r ∧ r.c = c := by
  unfold rowIs at h
  split at h
  · rename_i r hr; exact ⟨r, hr, beqL_eq (beqV_eq 8) _ _ h⟩
  · cases h
noncomputable def tabChk (rs : List Row) (k : Nat) (es : List En) : Bool :=
  rowIs rs k (cellsL (es.map (En.loc 11))) && es.all fun e => rowIs rs e.a (ints e.f.shapes) && rowIs rs e.b (ints e.f.slots) && Nat.ble e.f.shapes.length 1000 && Nat.ble e.f.slots.length 1000

theorem sh_ints (G δ : Nat) (l : List Int) : (ints l).map (shV G δ 6) = ints l := by
  unfold ints
  rw [List.map_map]
  exact List.map_congr_left fun x _ => shV_plain G δ 6 _ rfl
theorem shN_up (δ a : Nat) : shN 11 δ (11 + a) = 11 + δ + a := by
  unfold shN
  have : Nat.blt (11 + a) 11 = false := by
    cases h : Nat.blt (11 + a) 11 with
    | false => rfl
    | true => simp only [Nat.blt_eq] at h; omega
  rw [this]; simp only [cond_false]; omega
theorem sh_slice (δ a l c : Nat) : shV 11 δ 6 (.slice (some ⟨11 + a, 0, none⟩) l c) = .slice (some ⟨11 + δ + a, 0, none⟩) l c := by
  show Value.slice (some ⟨shN 11 δ (11 + a), 0, none⟩) l c = _
  rw [shN_up]
theorem sh_loc (δ : Nat) (e : En) : (e.loc 11).cells.map (shV 11 δ 6) = (e.loc (11 + δ)).cells := by
  simp only [Lf.cells, En.loc, List.map_cons, List.map_nil, sh_slice]
  rfl
theorem sh_tab (δ : Nat) (es : List En) : (cellsL (es.map (En.loc 11))).map (shV 11 δ 6) = cellsL (es.map (En.loc (11 + δ))) := by
  simp only [cellsL, List.map_flatMap, List.flatMap_map, sh_loc]

/-- Rows that came to be forms. -/
theorem rows_forms {rs : List Row} {k : Nat} {es : List En} (h : tabChk rs k es = true) (H : Heap) (hG : 11 ≤ H.next) (cap : Nat) : FmsAt (addR 11 rs H) (.slice (some ⟨H.next + k, 0, none⟩) es.length cap) (es.map (En.loc H.next)) := by
  unfold tabChk at h
  simp only [Bool.and_eq_true, List.all_eq_true, Nat.ble_eq] at h
  obtain ⟨h1, h2⟩ := h
  have hget : ∀ j r, rs[j]? = some r → (addR 11 rs H).get (H.next + j) = some (r.blk 11 (H.next - 11)) := fun j r hr => by
    have := (List.getElem?_eq_some_iff.1 hr).1
    unfold addR
    rw [pushR_get, if_pos ⟨by omega, by omega⟩, show H.next + j - H.next = j by omega, hr]; rfl
  have hδ : 11 + (H.next - 11) = H.next := by omega
  refine ⟨⟨_, _, by rw [List.length_map], fun _ => ?_⟩, fun x hx => ?_⟩
  · obtain ⟨r, hr, hc⟩ := rowIs_get h1
    refine ⟨_, r.e, r.ro, rfl, ?_⟩
    rw [hget k r hr, Row.blk, hc, sh_tab, hδ]
  · obtain ⟨e, he, rfl⟩ := List.mem_map.1 hx
    obtain ⟨⟨⟨g1, g2⟩, g3⟩, g4⟩ := h2 e he
    obtain ⟨r1, hr1, hc1⟩ := rowIs_get g1
    obtain ⟨r2, hr2, hc2⟩ := rowIs_get g2
    refine ⟨g3, g4, ⟨_, _, rfl, fun _ => ⟨_, r1.e, r1.ro, rfl, ?_⟩⟩, ⟨_, _, rfl, fun _ => ⟨_, r2.e, r2.ro, rfl, ?_⟩⟩⟩
    · rw [hget e.a r1 hr1, Row.blk, hc1, sh_ints]; rfl
    · rw [hget e.b r2 hr2, Row.blk, hc2, sh_ints]; rfl

theorem addR_ext {G : Nat} (rs : List Row) (H : Heap) : Ext H (addR G rs H) := by
  unfold addR
  exact ⟨by rw [pushR_next]; omega, fun id hid => by rw [pushR_get, if_neg (by omega)]⟩
theorem addR_wf {G : Nat} (rs : List Row) (H : Heap) (hw : H.Wf) : (addR G rs H).Wf := fun id hid => by
  unfold addR at *
  rw [pushR_next] at hid
  rw [pushR_get, if_neg (by omega)]
  exact hw id (by omega)

theorem tabs_ext {H H' : Heap} (hw : H.Wf) (h : tabsIn tabs H = true) (hx : Ext H H') : tabsIn tabs H' = true := by
  have : ∃ b, H.get 0 = some b := by
    unfold tabsIn tabs at h
    simp only [List.all_cons, List.all_nil, Bool.and_true, tabIs] at h
    split at h
    · rename_i c e hg; exact ⟨_, hg⟩
    · cases h
  obtain ⟨b, hb⟩ := this
  have hlt := hw.lt hb
  unfold tabsIn tabs at h ⊢
  simp only [List.all_cons, List.all_nil, Bool.and_true] at h ⊢
  rw [hx.get 0 hlt]; exact h

theorem gsize : Tryd.prog.globals.size = 11 := by kernel_rfl

noncomputable def sumA : Sum_ := rows.headD ⟨0, [], .nilFunc, []⟩
noncomputable def sumB : Sum_ := refRows.headD ⟨0, [], .nilFunc, []⟩
theorem sumA_in : sumA ∈ rows := List.mem_cons_self ..
theorem sumB_in : sumB ∈ refRows := List.mem_cons_self ..
theorem chkA : tabChk sumA.rs 100 tabA = true := by kernel_rfl
theorem chkB : tabChk sumB.rs 100 tabB = true := by kernel_rfl
theorem sumA_u (δ : Nat) : shV 11 δ 6 sumA.u = .slice (some ⟨11 + δ + 100, 0, none⟩) 50 (UNK + 10) := sh_slice δ 100 50 (UNK + 10)
theorem sumB_u (δ : Nat) : shV 11 δ 6 sumB.u = .slice (some ⟨11 + δ + 100, 0, none⟩) 50 (UNK + 10) := sh_slice δ 100 50 (UNK + 10)

theorem q9 (H : Heap) (ht : tabsIn tabs H = true) (hG : 11 ≤ H.next) : CallQ Tryd.prog 9 [] H fun u H' => Ext H H' ∧ u = .slice (some ⟨H.next + 100, 0, none⟩) 50 (UNK + 10) ∧ FmsAt H' u (tabA.map (En.loc H.next)) := by
  obtain ⟨g1, g2⟩ := sums_ok kn1_ok rows_ok (by kernel_rfl) sumA sumA_in
  have hd := g2 H ht
  rw [gsize, sumA_u, show 11 + (H.next - 11) = H.next by omega] at hd
  exact fun hw => ⟨_, _, .inl ⟨g1, hd⟩, (addR_ext _ _).next, addR_wf _ _ hw, addR_ext _ _, rfl, rows_forms chkA H hG _⟩
theorem q11 (H : Heap) (ht : tabsIn tabs H = true) (hG : 11 ≤ H.next) : CallQ Tryd.prog 11 [] H fun u H' => Ext H H' ∧ u = .slice (some ⟨H.next + 100, 0, none⟩) 50 (UNK + 10) ∧ FmsAt H' u (tabB.map (En.loc H.next)) := by
  obtain ⟨g1, g2⟩ := sums_ok xt_ok refRows_ok (by kernel_rfl) sumB sumB_in
  have hd := g2 H ht
  rw [gsize, sumB_u, show 11 + (H.next - 11) = H.next by omega] at hd
  exact fun hw => ⟨_, _, .inl ⟨g1, hd⟩, (addR_ext _ _).next, addR_wf _ _ hw, addR_ext _ _, rfl, rows_forms chkB H hG _⟩

theorem tabs_there : tabsIn tabs (tabHeap Tryd.prog.globals.size tabs) = true := by kernel_rfl
theorem tabs_wf : (tabHeap Tryd.prog.globals.size tabs).Wf := fun id hid => by
  cases h : (tabHeap Tryd.prog.globals.size tabs).get id with
  | none => rfl
  | some b =>
    obtain ⟨t, h1, h2, _⟩ := tabHeap_get h
    have e : t.id = 0 := by
      simp only [tabs, List.mem_cons, List.mem_nil_iff, or_false] at h1
      rw [h1]
    have hn : (tabHeap Tryd.prog.globals.size tabs).next = Tryd.prog.globals.size := rfl
    rw [hn, gsize] at hid
    omega
theorem tabs_ro : AllRo (tabHeap Tryd.prog.globals.size tabs) := fun id b h => by
  obtain ⟨t, h1, h2, rfl⟩ := tabHeap_get h; rfl
theorem i64_of_wf {z : Int} (h : (Lit.int .i64 z).wf = true) : I64 z := by
  have := bounds_i64 h
  unfold I64; omega

/-- Both tables have the same forms. -/
theorem tab_same : tabA.map (·.f) = tabB.map (·.f) := by kernel_rfl
theorem tabA_length : tabA.length = 50 := by kernel_rfl
theorem tabB_length : tabB.length = 50 := by kernel_rfl
end Go.Proofs.YtfdeejmibgpbhaaDoor.bits
