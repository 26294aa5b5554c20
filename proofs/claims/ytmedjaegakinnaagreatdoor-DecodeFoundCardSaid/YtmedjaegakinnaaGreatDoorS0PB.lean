/- What some closed calls give, seen. -/
import Derived.Test.YtmedjaegakinnaaGreatDoorLibS
set_option maxRecDepth 100000
namespace Go.Proofs.YtmedjaegakinnaaGreatDoor.tab
open Go.Ab
theorem QyI:YZ (kn3) QuA=true:=by kernel_rfl
theorem QyJ:YZ (kn4) QuB=true:=by kernel_rfl
theorem QyK:YZ (kn5) QuC=true:=by kernel_rfl
theorem QyL:YZ (kn6) QuD=true:=by kernel_rfl
