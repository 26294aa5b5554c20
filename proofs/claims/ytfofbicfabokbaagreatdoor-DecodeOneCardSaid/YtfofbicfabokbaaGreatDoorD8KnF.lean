/- The table and decode.find as known calls. -/
import Derived.Test.YtfofbicfabokbaaGreatDoorL9Tab
import Derived.Test.YtfofbicfabokbaaGreatDoorD4Known
set_option linter.unusedVariables false
set_option maxRecDepth 100000
noncomputable section
namespace Go.Proofs.YtfofbicfabokbaaGreatDoor.code
open Go.Ab
def Qs1:Bool:=match prog.underlying Ws with
 | some (.map k e)=>(match prog.underlying k,prog.info? e with
  | some (.int _),some inf=>(match inf.zero with | some (.pointer none)=>true | _=>false)
  | _,_=>false)
 | _=>false
theorem Qs2 (h:Qs1=true):QiF Ws:=by
 unfold Qs1 at h
 split at h
 ·rename_i k e h1
  split at h
  ·rename_i ik inf h2 h3
   split at h
   ·rename_i h4
    exact⟨⟨k,e,_,inf,h1,h2,h3,h4,fun c=>rfl⟩⟩
   ·cases h
  ·cases h
 ·cases h
theorem Qs3:QiF Ws:=Qs2 (by kernel_rfl)
def knF:CallF:=Jd knT (Qo3 tab.tabs Qb3)
theorem QwL:CallOk prog knF:=orKnown_ok QwI (QqZ tab.tabs_ok tab.tabs_low Qht Qo1 QsZ Qs3 (by kernel_rfl))
end Go.Proofs.YtfofbicfabokbaaGreatDoor.code
