/- What is known: the table and decode.find. -/
import Derived.Test.YtbkbdnlfkahaaaaGreatDoorD8KnF
namespace Go.Proofs.YtbkbdnlfkahaaaaGreatDoor.code
open Go.Ab
noncomputable def knZ : CallF := knF
theorem knZ_ok : CallOk prog knZ := knF_ok
end Go.Proofs.YtbkbdnlfkahaaaaGreatDoor.code
