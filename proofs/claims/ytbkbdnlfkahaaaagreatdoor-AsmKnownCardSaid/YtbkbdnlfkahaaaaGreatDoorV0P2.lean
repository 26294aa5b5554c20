/- What more closed calls give, seen. -/
import Derived.Test.YtbkbdnlfkahaaaaGreatDoorV0Sums
set_option maxRecDepth 100000
namespace Go.Proofs.YtbkbdnlfkahaaaaGreatDoor.code
open Go.Ab _root_.Go.Proofs.YtbkbdnlfkahaaaaGreatDoor.tab
theorem QhQ:Qh (Qeg) Qhj=true:=by kernel_rfl
theorem QhR:Qh (Zm) Qhk=true:=by kernel_rfl
theorem QhS:Qh (Zm) Qhl=true:=by kernel_rfl
end Go.Proofs.YtbkbdnlfkahaaaaGreatDoor.code
