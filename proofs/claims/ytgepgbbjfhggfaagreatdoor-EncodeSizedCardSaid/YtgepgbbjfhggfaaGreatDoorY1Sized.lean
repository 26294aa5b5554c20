/- linotypelaw20.EncodeSized over the listed tables. -/
import Derived.Test.YtgepgbbjfhggfaaGreatDoorLibV
import Derived.Test.YtgepgbbjfhggfaaGreatDoorLibX
set_option linter.unusedVariables false
set_option maxRecDepth 100000
namespace Go.Proofs.YtgepgbbjfhggfaaGreatDoor.code
open Go.Ab
theorem QAE (op:Int)(u:Value)(l:List Ar)(H:Qa)(aa:QcT tab.tabs H)(ab:Qt H u l)(q:∀a∈l,I64 a.n):Qe prog 5 [.agg #[.int .i64 op,u]] H λu H'=>u=.bool true∧Ext H H':=
 Quj (T:=QcT tab.tabs) (L:=Qum) Qlm (λop H h=>QJP op H h) (λop H h=>QIB op H h) QIA H QKu aa ab q
end Go.Proofs.YtgepgbbjfhggfaaGreatDoor.code
