/- The table and decode.find as known calls. -/
import Derived.Test.YtfofbicfabokbaaGreatDoorL9Tab
import Derived.Test.YtfofbicfabokbaaGreatDoorD4Known
set_option linter.unusedVariables false
set_option maxRecDepth 100000
noncomputable section
namespace Go.Proofs.YtfofbicfabokbaaGreatDoor.code
open Go.Ab
def QCt:Bool:=match prog.underlying Yc with
 | some (.map k e)=>(match prog.underlying k,prog.info? e with
  | some (.int _),some inf=>(match inf.zero with | some (.pointer none)=>true | _=>false)
  | _,_=>false)
 | _=>false
theorem QCu (h:QCt=true):QsH Yc:=by
 unfold QCt at h;split at h
 ·rename_i k e h1;split at h
  ·rename_i ik inf h2 h3;split at h
   ·rename_i h4;exact⟨⟨k,e,_,inf,h1,h2,h3,h4,λc=>rfl⟩⟩
   ·cases h
  ·cases h
 ·cases h
theorem QGL:QsH Yc:=QCu (by kernel_rfl)
def knF:CallF:=Zq knT (QxL tab.tabs Qib)
theorem QGM:CallOk prog knF:=orKnown_ok QGH (Qz8 tab.tabs_ok tab.tabs_low QpW QxJ QGI QGL (by kernel_rfl))
end Go.Proofs.YtfofbicfabokbaaGreatDoor.code
