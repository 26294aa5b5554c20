/- linotypelaw21.DecodeOne. -/
import Derived.Test.YtfofbicfabokbaaGreatDoorLibT
import Derived.Test.YtfofbicfabokbaaGreatDoorT4Pairs
import Derived.Test.YtfofbicfabokbaaGreatDoorD8KnF
import Derived.Test.YtfofbicfabokbaaGreatDoorA2Bytes
set_option linter.unusedVariables false
set_option maxRecDepth 100000
namespace Go.Proofs.YtfofbicfabokbaaGreatDoor.code
open Go.Ab
theorem Qq0:QkO ((run prog knF 100000 5 60).fn Xn [] (QY prog.globals.size tab.tabs))=true:=by kernel_rfl
theorem QuX (H:Qa) (hT:Kk tab.tabs H):Qf prog Xn [] H fun u H'=>u=.bool true∧H'=H:=
 QsY tab.tabs_ok QwL (by kernel_rfl) Qq0 H hT
theorem QuY:(Qb3.all QjC)=true:=by kernel_rfl
theorem Qnh (va:Value) (bs:List Int) (hby:YM bs) (i:Int) (hi:I64 i) (k:Int) (hk:I64 k) (H:Qa) (hT:Kk tab.tabs H) (hb:QiG H va bs):Qf prog Xr [va,.int .i64 i,.int .i64 k] H fun u H'=>u=.bool true∧True:=
 Qxj Vl QsZ (fun op H h=>QxJ op H h) Qs3 QuX (fun f hf=>List.all_eq_true.1 QuY f hf) (fun i k a b ha hb=>JJ ha hb) (by rw[Qc0];decide) (by rw[Qc0];decide) va bs hby i hi k hk H hT hb
end Go.Proofs.YtfofbicfabokbaaGreatDoor.code
