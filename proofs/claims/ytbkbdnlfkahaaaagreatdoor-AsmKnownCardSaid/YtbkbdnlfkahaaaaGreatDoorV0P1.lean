/- What more closed calls give, seen. -/
import Derived.Test.YtbkbdnlfkahaaaaGreatDoorV0Sums
set_option maxRecDepth 100000
namespace Go.Proofs.YtbkbdnlfkahaaaaGreatDoor.code
open Go.Ab _root_.Go.Proofs.YtbkbdnlfkahaaaaGreatDoor.tab
theorem QhO:Qh (Qeg) Qhh=true:=by kernel_rfl
theorem QhP:Qh (Qeg) Qhi=true:=by kernel_rfl
end Go.Proofs.YtbkbdnlfkahaaaaGreatDoor.code
