/- What is known: the table, decode.find, and the entry that gives room. -/
import Derived.Test.YtfdeejjmfbfjnaaGreatDoorD8KnF
import Derived.Test.YtfdeejjmfbfjnaaGreatDoorAbH
set_option maxRecDepth 100000
namespace Go.Proofs.YtfdeejjmfbfjnaaGreatDoor.code
open Go.Ab
theorem isRoom : IsRoom prog 180 5 := ⟨Tryz.f180, Tryz.f180.params, 25, Tryz.func180, by kernel_rfl, by kernel_rfl, by kernel_rfl, by kernel_rfl, by kernel_rfl, by kernel_rfl⟩
noncomputable def knZ : CallF := orKnown (zknown 180 5) knF
theorem knZ_ok : CallOk prog knZ := orKnown_ok (zknown_ok isRoom) knF_ok
end Go.Proofs.YtfdeejjmfbfjnaaGreatDoor.code
