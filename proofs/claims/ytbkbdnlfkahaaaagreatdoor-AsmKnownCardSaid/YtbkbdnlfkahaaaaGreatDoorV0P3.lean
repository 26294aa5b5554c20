/- What more closed calls give, seen. -/
import Derived.Test.YtbkbdnlfkahaaaaGreatDoorV0Sums
set_option maxRecDepth 100000
namespace Go.Proofs.YtbkbdnlfkahaaaaGreatDoor.code
open Go.Ab _root_.Go.Proofs.YtbkbdnlfkahaaaaGreatDoor.tab
theorem QhT:Qh (Zm) Qhm=true:=by kernel_rfl
theorem QhU:Qh (Zm) Qhn=true:=by kernel_rfl
theorem QhV:Qh (Zm) Qho=true:=by kernel_rfl
end Go.Proofs.YtbkbdnlfkahaaaaGreatDoor.code
