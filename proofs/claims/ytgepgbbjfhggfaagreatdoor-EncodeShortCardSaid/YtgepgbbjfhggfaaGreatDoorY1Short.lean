/- linotypelaw20.EncodeShort over the listed tables. -/
import Derived.Test.YtgepgbbjfhggfaaGreatDoorZUShort
import Derived.Test.YtgepgbbjfhggfaaGreatDoorY1Enc
set_option linter.unusedVariables false
set_option maxRecDepth 100000
namespace Go.Proofs.YtgepgbbjfhggfaaGreatDoor.code
open Go.Ab
theorem QAk (op:Int)(u:Value)(l:List Ar)(a:Int)(ha:I64 a)(H:Qa)(hT:QcL tab.tabs H)(hbs:Qv H u l)(hI:∀a∈l,I64 a.n):Qe prog 3 [.agg #[.int .i64 op,u],.int .i64 a] H λu H'=>u=.bool true∧Ext H H':=
 Qt4 (T:=QcL tab.tabs) (L:=Qt7) QhD (λop H h=>QJr op H h) (λop H h=>QIc op H h) QIb H QJ6 hT hbs hI
end Go.Proofs.YtgepgbbjfhggfaaGreatDoor.code
