/- What decode.Decode tells of 154 to 170 bytes that do nothing. -/
import Derived.Test.YtbkbdnlfkahaaaaGreatDoorLibW
set_option maxRecDepth 100000
namespace Go.Proofs.YtbkbdnlfkahaaaaGreatDoor.code
open Go.Ab
theorem nopJ_ok : ((List.range 17).all fun j => nopChk knN tab.tabs 50 (j + 154)) = true := by kernel_rfl
end Go.Proofs.YtbkbdnlfkahaaaaGreatDoor.code
