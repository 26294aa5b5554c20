/- What is read of the laid tables; the model's own entries; what some closed calls give. -/
import Derived.Test.YthoanamkoigjeaaGreatDoorProg
import Derived.Test.YthoanamkoigjeaaGreatDoorRows
import Derived.KernelRfl
import Derived.Test.YthoanamkoigjeaaGreatDoorAbF
namespace Go.Proofs.YthoanamkoigjeaaGreatDoor.tab
open Go.Ab Go.ChangeShapes Go.WideShapes Go.ChangeAt
def intsOf : DataW Unit → List Int
  | .agg xs => xs.filterMap fun | .lit (.int _ z) => some z | _ => none
  | _ => []
def bytesOf : DataW Unit → List (List UInt8)
  | .agg xs => xs.filterMap fun | .lit (.string z) => some z | _ => none
  | _ => []
noncomputable def rN (s : Nat) (l : List Nat) (e : TypeId) : Row := ⟨s, l.map fun n => .int .i64 (.ofNat n), e, false⟩
noncomputable def iZ (k : Nat) : Value := bif Nat.beq k 0 then .int .i64 (.negSucc 0) else .int .i64 (.ofNat (k - 1))
noncomputable def sZ (b n c : Nat) : Value := bif Nat.beq b 0 then .slice none 0 0 else .slice (some ⟨b, 0, none⟩) n (bif Nat.beq c 0 then n else UNK + 1)
noncomputable def fZ : List Nat → List Value
  | [op, b1, n1, c1, b2, n2, c2, pre, mp, code, dg, w, vx, l] => [.int .i64 (.ofNat op), sZ b1 n1 c1, sZ b2 n2 c2, .int .i64 (.ofNat pre), .int .i64 (.ofNat mp), .int .i64 (.ofNat code), iZ dg, iZ w, .bool (Nat.beq vx 1), .int .i64 (.ofNat l)]
  | _ => []
noncomputable def rF (s : Nat) (l : List (List Nat)) (e : TypeId) : Row := ⟨s, l.flatMap fZ, e, false⟩
noncomputable def tabs : List Tab := [⟨3, (intsOf Rows.laid_internal_strconv_uint64pow10).map (Value.int .u64), 128⟩, ⟨5, (intsOf Rows.laid_math_bits_deBruijn64tab).map (Value.int .u8), 134⟩]
noncomputable def xt : FuncId → Option Xk := fun f => bif Nat.beq f 74 then some .count else bif Nat.beq f 94 then some .indexByte else bif Nat.beq f 82 then some .noEscape else bif Nat.beq f 78 then some .add64 else none
set_option maxRecDepth 100000
noncomputable def okAll (kn : CallF) (l : List Sum_) : Bool := l.all fun s => sumOk Tryz.prog.globals.size s.u s.rs ((run Tryz.prog kn 100000 5 60).fn s.f s.args (tabHeap Tryz.prog.globals.size tabs))
end Go.Proofs.YthoanamkoigjeaaGreatDoor.tab
