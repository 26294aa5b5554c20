/- What is read of the laid tables; the model's own entries; what some closed calls give. -/
import Derived.Test.YtdjkkoacinpdeaaGreatDoorProg
import Derived.Test.YtdjkkoacinpdeaaGreatDoorRows
import Derived.KernelRfl
import Derived.Test.YtdjkkoacinpdeaaGreatDoorAbC
set_option maxRecDepth 100000
noncomputable section
namespace Go.Proofs.YtdjkkoacinpdeaaGreatDoor.tab
open Go.Ab Go.ChangeShapes Go.WideShapes Go.ChangeAt
def QgB:DataW Unit→List Int
 | .agg xs=>xs.filterMap fun | .lit (.int _ z)=>some z | _=>none
 | _=>[]
def Yf:DataW Unit→List (List UInt8)
 | .agg xs=>xs.filterMap fun | .lit (.string z)=>some z | _=>none
 | _=>[]
def tabs:List Tab:=[⟨0,(QgB Rows.laid_strings_asciiSpace).map (Value.int .u8),123⟩,⟨1,(QgB Rows.laid_internal_strconv_uint64pow10).map (Value.int .u64),128⟩,⟨7,(QgB Rows.laid_math_bits_deBruijn64tab).map (Value.int .u8),155⟩]
def xt:FuncId→Option Xk:=fun f=>bif Nat.beq f 119 then some .indexByte else bif Nat.beq f 96 then some .noEscape else none
def okAll (kn:CallF) (l:List Sum_):Bool:=l.all fun s=>Qqf Tryz.prog.globals.size s.u s.rs ((run Tryz.prog kn 100000 5 60).fn s.f s.args (XZ Tryz.prog.globals.size tabs))
end Go.Proofs.YtdjkkoacinpdeaaGreatDoor.tab
