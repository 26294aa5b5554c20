/- What some closed calls give, seen. -/
import Derived.Test.YtbkbdnlfkahaaaaGreatDoorS0Sums
set_option maxRecDepth 100000
namespace Go.Proofs.YtbkbdnlfkahaaaaGreatDoor.tab
open Go.Ab
theorem QcL:Qh (kn3) Qal=true:=by kernel_rfl
theorem QcM:Qh (kn4) Qam=true:=by kernel_rfl
theorem QcN:Qh (kn5) Qan=true:=by kernel_rfl
theorem QcO:Qh (kn6) Qao=true:=by kernel_rfl
end Go.Proofs.YtbkbdnlfkahaaaaGreatDoor.tab
