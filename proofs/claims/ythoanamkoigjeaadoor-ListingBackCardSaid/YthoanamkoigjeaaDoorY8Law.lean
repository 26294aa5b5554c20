/- ListingBack over the laid tables. -/
import Derived.Test.YthoanamkoigjeaaDoorLibY
import Derived.Test.YthoanamkoigjeaaDoorX3Tab
set_option linter.unusedVariables false
namespace Go.Proofs.YthoanamkoigjeaaDoor.code
open Go.Ab
theorem Qpa (x:Im) (vb vs vm:Value) (l:List (List UInt8)) (lv:Value) (H:Qa) (hT:QkH tab.tabs H) (hI:Qi7 H x vb vs vm) (hs:YD H lv l.length (YU l)):Qf prog Ww [.agg #[.int .i64 x.org,vb,vs,vm],lv] H fun u H'=>u=.bool true∧True:=
 (Qfl QnA (fun H hT=>QhS (by kernel_rfl) rfl rfl QnB H hT) x vb vs vm l lv H hT hI hs).mono fun _ _ h=>⟨h,trivial⟩
end Go.Proofs.YthoanamkoigjeaaDoor.code
