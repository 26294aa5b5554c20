/- What some closed calls give, seen. -/
import Derived.Test.YtmedjaegakinnaaGreatDoorLibS
set_option maxRecDepth 100000
namespace Go.Proofs.YtmedjaegakinnaaGreatDoor.tab
open Go.Ab
theorem QyM:YZ (kn7) QuE=true:=by kernel_rfl
theorem QyN:YZ (kn8) QzV=true:=by kernel_rfl
