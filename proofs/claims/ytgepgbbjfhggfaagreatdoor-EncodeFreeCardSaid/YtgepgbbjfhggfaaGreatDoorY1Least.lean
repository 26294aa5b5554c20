/- linotypelaw20.EncodeLeast over the listed tables. -/
import Derived.Test.YtgepgbbjfhggfaaGreatDoorLibC
import Derived.Test.YtgepgbbjfhggfaaGreatDoorL9Tab
import Derived.Test.YtgepgbbjfhggfaaGreatDoorA6Inst
set_option linter.unusedVariables false
set_option maxRecDepth 100000
noncomputable section
namespace Go.Proofs.YtgepgbbjfhggfaaGreatDoor.code
open Go.Ab
def V2 (op:Int):List Fm:=Qpe.filter λf=>f.op==op
theorem ex1:(Vr (V2 1) 1 [exA,exB] 0==([131,192,5],0))=true:=by kernel_rfl
theorem ex2:(Vr (V2 54) 54 [exC] 0==([235,5],0))=true:=by kernel_rfl
theorem ex3:(Vr (V2 54) 54 [exC] 2==([233,5,0,0,0],0))=true:=by kernel_rfl
theorem ex4:((KR (V2 50) 50 []).2==0&&(KR (V2 50) 50 []).1.length==2)=true:=by kernel_rfl
end Go.Proofs.YtgepgbbjfhggfaaGreatDoor.code
