/- What more closed calls give, seen. -/
import Derived.Test.YtbkbdnlfkahaaaaGreatDoorV0Sums
set_option maxRecDepth 100000
namespace Go.Proofs.YtbkbdnlfkahaaaaGreatDoor.code
open Go.Ab _root_.Go.Proofs.YtbkbdnlfkahaaaaGreatDoor.tab
theorem Qh4:Qh (Qhx) Qhy=true:=by kernel_rfl
theorem Qh6:Qh (VK) QhA=true:=by kernel_rfl
theorem Qh7:Qh (VK) QhB=true:=by kernel_rfl
end Go.Proofs.YtbkbdnlfkahaaaaGreatDoor.code
