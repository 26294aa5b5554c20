/- table.Match as a known call. -/
import Derived.Test.YtkoecjmmphmdeaaGreatDoorLibA
import Derived.Test.YtkoecjmmphmdeaaGreatDoorK7Match
set_option linter.unusedVariables false
set_option linter.unusedSimpArgs false
set_option maxRecDepth 100000
namespace Go.Proofs.YtkoecjmmphmdeaaGreatDoor.code
open Go.Ab

noncomputable def keyOf (v : Value) : Option Ky := match v with
  | .agg xs => match xs.toList with
    | [.bool a, .int .i64 b, .int .i64 c, .int .i64 d, .int .i64 e, .int .i64 f] => some ⟨a, b, c, d, e, f⟩
    | _ => none
  | _ => none
theorem keyOf_eq {v : Value} {k : Ky} (h : keyOf v = some k) : v = .agg k.cells.toArray := by
  unfold keyOf at h
  split at h
  · rename_i xs
    split at h
    · rename_i hx
      cases h
      show Value.agg xs = .agg _
      rw [show xs = xs.toList.toArray from rfl, hx]
      rfl
    · cases h
  · cases h

theorem mt_key (σ : Nat → Option Nat) (k : Ky) : mtV σ 6 (.agg k.cells.toArray) (.agg k.cells.toArray) = true := by
  show beqL (mtV σ 5) k.cells k.cells = true
  simp only [Ky.cells, beqL, mt_int, mt_bool, Bool.and_self]

noncomputable def mknown (tabs : List Tab) (LL : FuncId → List Fm) : CallF := fun f args H =>
  bif Nat.beq f f_table_Match then (match args with | [v] => (match keyOf v with | some k => picKn tabs (colF LL 1 322 (fun x => mayF x k) lis) H | none => none) | _ => none) else none
theorem mknown_ok {tabs : List Tab} (ht : tabsOk tabs = true) (htab : ∀ t ∈ tabs, t.id < prog.globals.size) (hwf : (tabHeap prog.globals.size tabs).Wf) (htt : TabT tabs (tabHeap prog.globals.size tabs)) (LL : FuncId → List Fm) (hL : ∀ x ∈ lis, Tells (TabT tabs) x.2.2 (LL x.2.2))
    (e3 : entered prog f_table_Match = true) : CallOk prog (mknown tabs LL) := by
  intro f args H v H' h
  unfold mknown at h
  cases b3 : Nat.beq f f_table_Match with
  | true =>
    rw [b3, cond_true] at h
    have := Nat.eq_of_beq_eq_true b3
    subst this
    split at h
    · split at h
      · rename_i k hk
        have := keyOf_eq hk
        subst this
        exact picKn_ok ht htab hwf htt e3 (by simp only [beqL, mt_key, Bool.and_self]) (fun H hT => q_table_Match tabT_ext LL hL _ H hT) h
      · cases h
    · cases h
  | false => rw [b3, cond_false] at h; cases h
end Go.Proofs.YtkoecjmmphmdeaaGreatDoor.code
