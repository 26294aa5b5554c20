/- What decode.Decode tells of 35 to 51 bytes that do nothing. -/
import Derived.Test.YtbkbdnlfkahaaaaGreatDoorLibW
set_option maxRecDepth 100000
namespace Go.Proofs.YtbkbdnlfkahaaaaGreatDoor.code
open Go.Ab
theorem nopC_ok : ((List.range 17).all fun j => nopChk knN tab.tabs 50 (j + 35)) = true := by kernel_rfl
end Go.Proofs.YtbkbdnlfkahaaaaGreatDoor.code
