/- What is read of the laid tables; the model's own entries; what some closed calls give. -/
import Derived.Test.YtgbdkammehhchaaDoorProg
import Derived.Test.YtgbdkammehhchaaDoorRows
import Derived.KernelRfl
import Derived.Test.YtgbdkammehhchaaDoorAbBridge
namespace Go.Proofs.YtgbdkammehhchaaDoor.listk
open Go.Ab Go.ChangeShapes Go.WideShapes Go.ChangeAt
def intsOf : DataW Unit → List Int
  | .agg xs => xs.filterMap fun | .lit (.int _ z) => some z | _ => none
  | _ => []
noncomputable def tabs : List Tab := [⟨5, (intsOf Rows.laid_math_bits_deBruijn64tab).map (Value.int .u8), 128⟩, ⟨0, (intsOf Rows.laid_internal_strconv_uint64pow10).map (Value.int .u64), 116⟩]
noncomputable def xt : FuncId → Option Xk := fun f => bif Nat.beq f 66 then some .count else bif Nat.beq f 84 then some .indexByte else bif Nat.beq f 47 then some .noEscape else bif Nat.beq f 70 then some .add64 else none
set_option maxRecDepth 100000
noncomputable def okAll (kn : CallF) (l : List Sum_) : Bool := l.all fun s => sumOk Tryd.prog.globals.size s.u s.rs ((run Tryd.prog kn 100000 5 60).fn s.f s.args (tabHeap Tryd.prog.globals.size tabs))
end Go.Proofs.YtgbdkammehhchaaDoor.listk
