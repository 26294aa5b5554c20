/- What is read of the laid tables; the model's own entries; what some closed calls give. -/
import Derived.Test.YthoanamkoigjeaaDoorProg
import Derived.Test.YthoanamkoigjeaaDoorRows
import Derived.KernelRfl
import Derived.Test.YthoanamkoigjeaaDoorAbC
set_option maxRecDepth 100000
noncomputable section
namespace Go.Proofs.YthoanamkoigjeaaDoor.tab
open Go.Ab Go.ChangeShapes Go.WideShapes Go.ChangeAt
def Qmi:DataW Unit→List Int
 | .agg xs=>xs.filterMap fun | .lit (.int _ z)=>some z | _=>none
 | _=>[]
def W0:DataW Unit→List (List UInt8)
 | .agg xs=>xs.filterMap fun | .lit (.string z)=>some z | _=>none
 | _=>[]
def tabs:List Tab:=[⟨0,(Qmi Rows.laid_internal_strconv_uint64pow10).map (Value.int .u64),108⟩,⟨5,(Qmi Rows.laid_math_bits_deBruijn64tab).map (Value.int .u8),121⟩]
def xt:FuncId→Option Xk:=fun f=>bif Nat.beq f 60 then some .count else bif Nat.beq f 78 then some .indexByte else bif Nat.beq f 41 then some .noEscape else bif Nat.beq f 64 then some .add64 else none
end Go.Proofs.YthoanamkoigjeaaDoor.tab
