/- What is read of the laid tables; the model's own entries; what some closed calls give. -/
import Derived.Test.YtdjkkoacinpdeaaDoorProg
import Derived.Test.YtdjkkoacinpdeaaDoorRows
import Derived.KernelRfl
import Derived.Test.YtdjkkoacinpdeaaDoorAbBridge
namespace Go.Proofs.YtdjkkoacinpdeaaDoor.printk
open Go.Ab Go.ChangeShapes Go.WideShapes Go.ChangeAt
def intsOf : DataW Unit → List Int
  | .agg xs => xs.filterMap fun | .lit (.int _ z) => some z | _ => none
  | _ => []
noncomputable def tabs : List Tab := [⟨0, (intsOf Rows.laid_strings_asciiSpace).map (Value.int .u8), 106⟩, ⟨7, (intsOf Rows.laid_math_bits_deBruijn64tab).map (Value.int .u8), 148⟩]
noncomputable def xt : FuncId → Option Xk := fun f => bif Nat.beq f 81 then some .indexByte else bif Nat.beq f 55 then some .noEscape else none
set_option maxRecDepth 100000
noncomputable def okAll (kn : CallF) (l : List Sum_) : Bool := l.all fun s => sumOk Tryd.prog.globals.size s.u s.rs ((run Tryd.prog kn 100000 5 60).fn s.f s.args (tabHeap Tryd.prog.globals.size tabs))
noncomputable def sums0 : List Sum_ := [
  ⟨59, [.string (mkS [97, 108, 32, 99, 108, 32, 100, 108, 32, 98, 108, 32, 115, 112, 108, 32, 98, 112, 108, 32, 115, 105, 108, 32, 100, 105, 108, 32, 114, 56, 98, 32, 114, 57, 98, 32, 114, 49, 48, 98, 32, 114, 49, 49, 98, 32, 114, 49, 50, 98, 32, 114, 49, 51, 98, 32, 114, 49, 52, 98, 32, 114, 49, 53, 98])], .slice (some ⟨9, 0, none⟩) 16 16, [⟨9, [.string (mkS [97, 108]), .string (mkS [99, 108]), .string (mkS [100, 108]), .string (mkS [98, 108]), .string (mkS [115, 112, 108]), .string (mkS [98, 112, 108]), .string (mkS [115, 105, 108]), .string (mkS [100, 105, 108]), .string (mkS [114, 56, 98]), .string (mkS [114, 57, 98]), .string (mkS [114, 49, 48, 98]), .string (mkS [114, 49, 49, 98]), .string (mkS [114, 49, 50, 98]), .string (mkS [114, 49, 51, 98]), .string (mkS [114, 49, 52, 98]), .string (mkS [114, 49, 53, 98])], 9, false⟩]⟩,
  ⟨59, [.string (mkS [101, 97, 120, 32, 101, 99, 120, 32, 101, 100, 120, 32, 101, 98, 120, 32, 101, 115, 112, 32, 101, 98, 112, 32, 101, 115, 105, 32, 101, 100, 105, 32, 114, 56, 100, 32, 114, 57, 100, 32, 114, 49, 48, 100, 32, 114, 49, 49, 100, 32, 114, 49, 50, 100, 32, 114, 49, 51, 100, 32, 114, 49, 52, 100, 32, 114, 49, 53, 100])], .slice (some ⟨9, 0, none⟩) 16 16, [⟨9, [.string (mkS [101, 97, 120]), .string (mkS [101, 99, 120]), .string (mkS [101, 100, 120]), .string (mkS [101, 98, 120]), .string (mkS [101, 115, 112]), .string (mkS [101, 98, 112]), .string (mkS [101, 115, 105]), .string (mkS [101, 100, 105]), .string (mkS [114, 56, 100]), .string (mkS [114, 57, 100]), .string (mkS [114, 49, 48, 100]), .string (mkS [114, 49, 49, 100]), .string (mkS [114, 49, 50, 100]), .string (mkS [114, 49, 51, 100]), .string (mkS [114, 49, 52, 100]), .string (mkS [114, 49, 53, 100])], 9, false⟩]⟩,
  ⟨59, [.string (mkS [114, 97, 120, 32, 114, 99, 120, 32, 114, 100, 120, 32, 114, 98, 120, 32, 114, 115, 112, 32, 114, 98, 112, 32, 114, 115, 105, 32, 114, 100, 105, 32, 114, 56, 32, 114, 57, 32, 114, 49, 48, 32, 114, 49, 49, 32, 114, 49, 50, 32, 114, 49, 51, 32, 114, 49, 52, 32, 114, 49, 53])], .slice (some ⟨9, 0, none⟩) 16 16, [⟨9, [.string (mkS [114, 97, 120]), .string (mkS [114, 99, 120]), .string (mkS [114, 100, 120]), .string (mkS [114, 98, 120]), .string (mkS [114, 115, 112]), .string (mkS [114, 98, 112]), .string (mkS [114, 115, 105]), .string (mkS [114, 100, 105]), .string (mkS [114, 56]), .string (mkS [114, 57]), .string (mkS [114, 49, 48]), .string (mkS [114, 49, 49]), .string (mkS [114, 49, 50]), .string (mkS [114, 49, 51]), .string (mkS [114, 49, 52]), .string (mkS [114, 49, 53])], 9, false⟩]⟩,
  ⟨59, [.string (mkS [114, 105, 112])], .slice (some ⟨9, 0, none⟩) 1 1, [⟨9, [.string (mkS [114, 105, 112])], 9, false⟩]⟩]
theorem sums0_ok : okAll (xknown xt) sums0 = true := by kernel_rfl
noncomputable def kn1 : CallF := orKnown (xknown xt) (fun f args H => sknown Tryd.prog.globals.size tabs f args H (sums0))
end Go.Proofs.YtdjkkoacinpdeaaDoor.printk
