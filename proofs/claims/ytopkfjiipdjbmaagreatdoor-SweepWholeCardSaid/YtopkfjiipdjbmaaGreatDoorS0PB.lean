import Derived.Test.YtopkfjiipdjbmaaGreatDoorLibS
set_option maxRecDepth 100000
namespace Go.Proofs.YtopkfjiipdjbmaaGreatDoor.tab
open Go.Ab
theorem QAh:YU (kn3) QvL=true:=by kernel_rfl
theorem QAi:YU (kn4) QvM=true:=by kernel_rfl
theorem QAj:YU (kn5) QvN=true:=by kernel_rfl
theorem QAk:YU (kn6) QvO=true:=by kernel_rfl
