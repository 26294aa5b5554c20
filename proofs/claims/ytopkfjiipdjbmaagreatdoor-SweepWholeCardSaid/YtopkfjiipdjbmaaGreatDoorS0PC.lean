import Derived.Test.YtopkfjiipdjbmaaGreatDoorLibS
set_option maxRecDepth 100000
namespace Go.Proofs.YtopkfjiipdjbmaaGreatDoor.tab
open Go.Ab
theorem QAl:YU (kn7) QvP=true:=by kernel_rfl
theorem QAm:YU (kn8) QBn=true:=by kernel_rfl
