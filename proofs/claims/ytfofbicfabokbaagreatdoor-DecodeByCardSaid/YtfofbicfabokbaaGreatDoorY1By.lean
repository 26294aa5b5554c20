/- linotypelaw21.DecodeBy and DecodeBytes, over the tables. -/
import Derived.Test.YtfofbicfabokbaaGreatDoorLibF
import Derived.Test.YtfofbicfabokbaaGreatDoorT4Pairs
import Derived.Test.YtfofbicfabokbaaGreatDoorD8KnF
import Derived.Test.YtfofbicfabokbaaGreatDoorLibA
import Derived.Test.YtfofbicfabokbaaGreatDoorLibZ
set_option linter.unusedVariables false
set_option maxRecDepth 100000
namespace Go.Proofs.YtfofbicfabokbaaGreatDoor.code
open Go.Ab
theorem QAb:Qti ((run prog knF 100000 5 60).fn W9 [] (Wv prog.globals.size tab.tabs))=true:=by kernel_rfl
theorem QEF (H:Qa) (hT:V0 tab.tabs H):Qh prog W9 [] H λu H'=>u=.bool true∧H'=H:=
 QCq tab.tabs_ok QGM (by kernel_rfl) QAb H hT
theorem QGQ:(Qib.all dfB)=true:=by kernel_rfl
theorem QEX {f:Fm} (hf:f∈Qib):DFm f:=QGr (Li.1 QGQ f hf)
theorem QsR {l:List Fm} (h:l.isEmpty=false):l≠[]:=λe=>by rw[e]at h;cases h
theorem QHH (H:Qa) (hT:V0 tab.tabs H):Qh prog Wt [] H λu H'=>QiS H H' u Qib:=
 Qlc Qeg H hT Qhe Qhf Qhg Qhh Qhi Qhj
  (QsR (by kernel_rfl)) (QsR (by kernel_rfl)) (QsR (by kernel_rfl)) (QsR (by kernel_rfl)) (QsR (by kernel_rfl)) (QsR (by kernel_rfl))
theorem QxN (x:Lf) (va:Value) (bs:List Int) (hby:Qnr bs) (H:Qa) (hT:V0 tab.tabs H) (h1:ZA H x.sv x.f.shapes.length (ints x.f.shapes)) (h2:ZA H x.tv x.f.slots.length (ints x.f.slots)) (hb:ByC H va bs) (hxb:∀n,H.next<=n->Qs n 6 (.agg x.cells.toArray)=true):
  Qh prog ZX [.agg x.cells.toArray,va] H λu H'=>u=.bool true∧Ext H H':=
 QEe Qeg (λop H h=>QIh op H h) QHH QEF (λf=>Iff.rfl) (λf hf=>(QEX hf).1.1) (λf hf=>QEX hf) x va bs hby H hT h1 h2 hb hxb
end Go.Proofs.YtfofbicfabokbaaGreatDoor.code
