/- linotyperef19.Of and awake over the listed tables. -/
import Derived.Test.YtgepgbbjfhggfaaGreatDoorBVAwake
import Derived.Test.YtgepgbbjfhggfaaGreatDoorL9Tab
import Derived.Test.YtgepgbbjfhggfaaGreatDoorZXChk
import Derived.Test.YtgepgbbjfhggfaaGreatDoorM3Ref19
import Derived.Test.YtgepgbbjfhggfaaGreatDoorA6Inst
set_option linter.unusedVariables false
set_option maxRecDepth 100000
noncomputable section
namespace Go.Proofs.YtgepgbbjfhggfaaGreatDoor.code
open Go.Ab
def Qt7 (op:Int):List Fm:=Qwv.filter λf=>f.op==op
theorem ex1:(QjO (Qt7 1) 1 [exA,exB] 0==([131,192,5],0))=true:=by kernel_rfl
theorem ex2:(QjO (Qt7 54) 54 [exC] 0==([235,5],0))=true:=by kernel_rfl
theorem ex3:(QjO (Qt7 54) 54 [exC] 2==([233,5,0,0,0],0))=true:=by kernel_rfl
theorem ex4:((Qnl (Qt7 50) 50 []).2==0&&(Qnl (Qt7 50) 50 []).1.length==2)=true:=by kernel_rfl
theorem QJ6 (H:Qa)(hT:QcL tab.tabs H):Qe prog 7 [] H λu H'=>u=.bool true∧Ext H H':=by
 have h4:=ex4;rw[Lm,L0,L0]at h4;exact Qx3 (T:=QcL tab.tabs) (L:=Qt7) QhD (λop H h=>QJr op H h) (eq_of_beq ex1) (eq_of_beq ex2) (eq_of_beq ex3) (W:=(Qnl (Qt7 50) 50 []).1) (Prod.ext rfl h4.1) h4.2 H hT
theorem QGl:(Qwv.all λf=>QH7 f&&(QeY f==0))=true:=by kernel_rfl
theorem QIb (op:Int):∀f∈Qt7 op,Chk f∧QeY f=0:=λf hf=>by
 have:=Li.1 QGl f (Bo.1 hf).1;rw[Lm]at this;exact⟨QGj this.1,eq_of_beq this.2⟩
theorem QuV {l:List Fm}(h:l.isEmpty=false):l≠[]:=λe=>by rw[e]at h;cases h
theorem QJu (H:Qa)(hT:QcL tab.tabs H):Qe prog 59 [] H λu H'=>Qnf H H' u Qwv:=
 Qlg QhD H hT Qgi Qgj Qgk Qgl Qgm Qgn
  (QuV (by kernel_rfl)) (QuV (by kernel_rfl)) (QuV (by kernel_rfl)) (QuV (by kernel_rfl)) (QuV (by kernel_rfl)) (QuV (by kernel_rfl))
theorem QIc (op:Int)(H:Qa)(hT:QcL tab.tabs H):Qe prog 33 [.int .i64 op] H λu H'=>Qnf H H' u (Qt7 op):=Qnq QJu op H hT
end Go.Proofs.YtgepgbbjfhggfaaGreatDoor.code
