/- What some closed calls give, seen. -/
import Derived.Test.YtbkbdnlfkahaaaaGreatDoorS0Sums
set_option maxRecDepth 100000
namespace Go.Proofs.YtbkbdnlfkahaaaaGreatDoor.tab
open Go.Ab
theorem QcP:Qh (kn7) Qap=true:=by kernel_rfl
theorem QcQ:Qh (kn8) QdQ=true:=by kernel_rfl
end Go.Proofs.YtbkbdnlfkahaaaaGreatDoor.tab
