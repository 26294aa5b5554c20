/- What more closed calls give, seen. -/
import Derived.Test.YtbkbdnlfkahaaaaGreatDoorV0Sums
set_option maxRecDepth 100000
namespace Go.Proofs.YtbkbdnlfkahaaaaGreatDoor.code
open Go.Ab _root_.Go.Proofs.YtbkbdnlfkahaaaaGreatDoor.tab
theorem Qh8:Qh (VK) QhC=true:=by kernel_rfl
theorem Qh9:Qh (VK) QhD=true:=by kernel_rfl
theorem Qia:Qh (VK) QhE=true:=by kernel_rfl
end Go.Proofs.YtbkbdnlfkahaaaaGreatDoor.code
