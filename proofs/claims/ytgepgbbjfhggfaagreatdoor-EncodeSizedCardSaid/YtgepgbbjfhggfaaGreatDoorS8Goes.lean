/- No function of the translation starts a goroutine: so no call does (a cheaper road than the one by what a call can reach). -/
import Derived.Test.YtgepgbbjfhggfaaGreatDoorProg
import Derived.Test.YtgepgbbjfhggfaaGreatDoorChecked
import Derived.SevenTiedAt
set_option maxRecDepth 100000
namespace Go.Proofs.YtgepgbbjfhggfaaGreatDoor.goes0
open Go
theorem QCO {P:Program}(h:P.funcs.any Func.goes=false)(f:FuncId):P.goes f=false:=by
 have q:∀ (i:Nat) (g:Func),P.funcs[i]? = some g->g.goes=false:=λi g aa=>by
  obtain⟨hi,e⟩:=Array.getElem?_eq_some_iff.mp aa;rw[Array.any_eq_false]at h;have:=h i hi;rw[e]at this;simpa using this
 unfold Program.goes;rw[h,Bool.and_false,Bool.or_false,List.any_eq_false];intro g _;cases e:P.funcs[g]? with
 | none=>simp
 | some x=>simp[q g x e]
theorem goesBy_none {P:Program}(h:P.funcs.any Func.goes=false)(c:OpenClaim)(q:c.start=.entering):false=c.goesBy P:=by
 unfold OpenClaim.goesBy Program.goesAt Program.goesFrom;rw[q];cases e:P.funcNamed c.func with
 | none=>simp
 | some f=>simp[QCO h f]
theorem none_goes:Tryz.prog.funcs.any Func.goes=false:=by kernel_rfl
end Go.Proofs.YtgepgbbjfhggfaaGreatDoor.goes0
