/- linotypelaw28.AsmTells, over the laid tables. -/
import Derived.Test.YtbkbdnlfkahaaaaGreatDoorLibG
import Derived.Test.YtbkbdnlfkahaaaaGreatDoorA3Nodes
import Derived.Test.YtbkbdnlfkahaaaaGreatDoorV4Known
set_option linter.unusedVariables false
set_option maxRecDepth 100000
namespace Go.Proofs.YtbkbdnlfkahaaaaGreatDoor.code
open Go.Ab
theorem awake28_ran : isTrue ((run prog more9 100000 5 60).fn f_linotypelaw28_awake [] (tabHeap prog.globals.size tab.tabs)) = true := by kernel_rfl
theorem q_tells (n : Int) (hn : I64 n) (v : Value) (xs : List Nd) (H : Heap) (hT : TabT tab.tabs H) (hx : NdsAt H v xs) : CallQ prog f_linotypelaw28_AsmTells [.int .i64 n, v] H fun u H' => u = .bool true ∧ True :=
  q_Tells (T := TabT tab.tabs) (fun H H' hw h hx => tabT_ext _ _ hw h hx) (fun H hT => (closed_q tab.tabs_ok more9_ok (by kernel_rfl) awake28_ran H hT).mono fun u H' h => ⟨h.1, by rw [h.2]; exact Nat.le_refl _⟩) n v xs H hT hx
end Go.Proofs.YtbkbdnlfkahaaaaGreatDoor.code
