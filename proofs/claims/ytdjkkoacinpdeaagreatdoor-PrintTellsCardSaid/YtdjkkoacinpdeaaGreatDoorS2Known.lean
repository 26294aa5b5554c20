/- What is known ahead of the closed runs. -/
import Derived.Test.YtdjkkoacinpdeaaGreatDoorS1Laid
set_option maxRecDepth 100000
namespace Go.Proofs.YtdjkkoacinpdeaaGreatDoor.tab
open Go.ChangeShapes Go.WideShapes Go.ChangeAt Go.RowKit
theorem sums_ok {kn:Ab.CallF} (hk:Ab.CallOk Tryz.prog kn) {l:List Ab.Sum_} (h:okAll kn l=true) (he:(l.all fun s=>Ab.entered Tryz.prog s.f&&s.args.all Ab.closedV)=true):∀s∈l,Ab.SumOk Tryz.prog tabs s:=fun s hs=>by
 have h1:=List.all_eq_true.1 h s hs
 have h2:=List.all_eq_true.1 he s hs
 simp only[Bool.and_eq_true]at h2
 exact⟨h2.1,fun H hH=>Ab.sum_does hk h2.1 h2.2 tabs_ok h1 H hH⟩
end Go.Proofs.YtdjkkoacinpdeaaGreatDoor.tab
