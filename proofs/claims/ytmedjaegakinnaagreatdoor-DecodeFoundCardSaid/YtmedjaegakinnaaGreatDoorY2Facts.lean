/- The facts of the row DecodeFound, one by one. -/
import Derived.Test.YtmedjaegakinnaaGreatDoorLibX
import Derived.KernelRfl
set_option linter.defProp false
set_option linter.unusedVariables false
set_option maxRecDepth 100000
namespace Go.Proofs.YtmedjaegakinnaaGreatDoor.decodeFound
open Go.ChangeShapes Go.WideShapes Go.ChangeAt Go.RowKit
def KO {a b:Bool}(q:a=true)(aa:b=true):(a&&b)=true:=by rw[q,aa];rfl
def k1:(Rows.decodeFoundRow.wf (OpenSpec.ofChange (OpenSpec.ofChange Rows.decodeFoundSpec).bare))=true:=by kernel_rfl
def k2:(laidOutB Tryz.pinned.checked.prog)=true:=by kernel_rfl
def k3:(mapsRowed Tryz.pinned.checked.prog)=true:=by kernel_rfl
def k4:(Tryz.f3.params.all (Tryz.pinned.checked.prog.readableRec ·))=true:=by kernel_rfl
def k5:(namedTie Tryz.pinned.checked.prog Rows.decodeFoundRow.named (OpenSpec.ofChange Rows.decodeFoundSpec).bare.vars)=true:=by kernel_rfl
def k6:((Rows.decodeFoundRow.stops==[]))=true:=by kernel_rfl
def k7:((Tryz.pinned.checked.prog.stops==[]))=true:=by kernel_rfl
def k8:((Rows.decodeFoundRow.knobs==[]))=true:=by kernel_rfl
def k9:((Tryz.pinned.checked.prog.stopKnobs==[]))=true:=by kernel_rfl
def k10:((Rows.decodeFoundRow.inPlace==Tryz.pinned.checked.prog.inPlace 3))=true:=by kernel_rfl
def k11:((Rows.decodeFoundRow.unfollowed==Tryz.pinned.checked.prog.unfollowed 3))=true:=by kernel_rfl
def k12:((Rows.decodeFoundRow.recurses==Tryz.pinned.checked.prog.recurses 3))=true:=by kernel_rfl
def k13:((Rows.decodeFoundRow.named==Tryz.pinned.checked.prog.varsNamed 3))=true:=by kernel_rfl
def k14:((Rows.decodeFoundRow.maps==(Tryz.f3.params.toList++(OpenSpec.ofChange Rows.decodeFoundSpec).bare.plain.varTypes Tryz.pinned.checked.prog).any (Tryz.pinned.checked.prog.mapsRec ·)))=true:=by kernel_rfl
def k15:((Rows.decodeFoundRow.ifaces==(Tryz.f3.params.toList++(OpenSpec.ofChange Rows.decodeFoundSpec).bare.plain.varTypes Tryz.pinned.checked.prog).any (Tryz.pinned.checked.prog.ifacesRec ·)))=true:=by kernel_rfl
def k16:((Rows.decodeFoundRow.mapsOut==Tryz.pinned.checked.prog.mapsAmong Tryz.f3.resultTypes.toList))=true:=by kernel_rfl
def k17:((Rows.decodeFoundRow.loops==(Tryz.f3.params.toList++(OpenSpec.ofChange Rows.decodeFoundSpec).bare.plain.varTypes Tryz.pinned.checked.prog).any (Tryz.pinned.checked.prog.loopsFrom ·)))=true:=by kernel_rfl
def k18:((Rows.decodeFoundRow.wideKeys==(Tryz.f3.params.toList++(OpenSpec.ofChange Rows.decodeFoundSpec).bare.plain.varTypes Tryz.pinned.checked.prog++Tryz.f3.resultTypes.toList).any (Tryz.pinned.checked.prog.wideKeysFrom ·)))=true:=by kernel_rfl
def k19:((OpenSpec.ofChange Rows.decodeFoundSpec).bare.vars.all (Tryz.pinned.checked.prog.varReadable ·))=true:=by kernel_rfl
def k20:(Tryz.f3.resultTypes.all (λt=>Tryz.pinned.checked.prog.readableRec t&&decide (t<Tryz.pinned.checked.prog.types.size)))=true:=by kernel_rfl
def k21:((Rows.decodeFoundRow.ifacesOut==Tryz.f3.resultTypes.toList.any (Tryz.pinned.checked.prog.ifacesRec ·)))=true:=by kernel_rfl
def k22:((Rows.decodeFoundRow.loopsOut==Tryz.f3.resultTypes.toList.any (Tryz.pinned.checked.prog.loopsFrom ·)))=true:=by kernel_rfl
def k23:((Rows.decodeFoundRow.plainKeys==Tryz.pinned.checked.prog.plainKeys))=true:=by kernel_rfl
def k24:(Rows.decodeFoundRow.shortTexts.isNone)=true:=by kernel_rfl
def k25:(Tryz.pinned.checked.prog.stopsHeard)=true:=by kernel_rfl
def k26:(Tryz.pinned.checked.prog.mayEnter)=true:=by kernel_rfl
def k27:((Rows.decodeFoundRow.lifted==Tryz.pinned.checked.prog.liftsFinal))=true:=by kernel_rfl
def k28:((Tryz.pinned.checked.prog.make==some Rows.decodeFoundRow.make))=true:=by kernel_rfl
def k29:((Rows.decodeFoundRow.kinds==(if Rows.decodeFoundRow.domain.isEmpty then[] else Tryz.f3.params.toList.map λt=>match Tryz.pinned.checked.prog.underlying t with | some (.int k)=>some k | _=>none)))=true:=by kernel_rfl
def k30:((Rows.decodeFoundRow.pinned==Rows.decodeFoundRow.pinnedBy))=true:=by kernel_rfl
def k31:((Rows.decodeFoundRow.veiled==(Tryz.f3.params.toList++(OpenSpec.ofChange Rows.decodeFoundSpec).bare.plain.varTypes Tryz.pinned.checked.prog++Tryz.f3.resultTypes.toList).any (Tryz.pinned.checked.prog.veiledRec ·)))=true:=by kernel_rfl
def k32:(Rows.decodeFoundRow.veiledFits Tryz.pinned.checked.prog Tryz.f3.params.toList (Tryz.f3.params.toList++(OpenSpec.ofChange Rows.decodeFoundSpec).bare.plain.varTypes Tryz.pinned.checked.prog++Tryz.f3.resultTypes.toList))=true:=by kernel_rfl
def closed:joinedFacts Tryz.pinned.checked.prog 3 Tryz.f3 (OpenSpec.ofChange Rows.decodeFoundSpec).bare Rows.decodeFoundRow=true:=KO (KO (KO (KO (KO (KO (KO (KO (KO (KO (KO (KO (KO (KO (KO (KO (KO (KO (KO (KO (KO (KO (KO (KO (KO (KO (KO (KO (KO (KO (KO (k1) k2) k3) k4) k5) k6) k7) k8) k9) k10) k11) k12) k13) k14) k15) k16) k17) k18) k19) k20) k21) k22) k23) k24) k25) k26) k27) k28) k29) k30) k31) k32
def named:Tryz.pinned.checked.prog.funcNamed Rows.decodeFoundRow.func=some 3:=by kernel_rfl
