/- The facts of the row SweepOn, one by one. -/
import Derived.Test.YtopkfjiipdjbmaaGreatDoorLibX
import Derived.KernelRfl
set_option linter.unusedVariables false
set_option maxRecDepth 100000
namespace Go.Proofs.YtopkfjiipdjbmaaGreatDoor.sweepOn
open Go.ChangeShapes Go.WideShapes Go.ChangeAt Go.RowKit
theorem Ge {a b:Bool}(aa:a=true)(ab:b=true):(a&&b)=true:=by rw[aa,ab];rfl
theorem k1:(Rows.sweepOnRow.wf (OpenSpec.ofChange (OpenSpec.ofChange Rows.sweepOnSpec).bare))=true:=by kernel_rfl
theorem k2:(laidOutB Tryz.pinned.checked.prog)=true:=by kernel_rfl
theorem k3:(mapsRowed Tryz.pinned.checked.prog)=true:=by kernel_rfl
theorem k4:(Tryz.f4.params.all (Tryz.pinned.checked.prog.readableRec ·))=true:=by kernel_rfl
theorem k5:(namedTie Tryz.pinned.checked.prog Rows.sweepOnRow.named (OpenSpec.ofChange Rows.sweepOnSpec).bare.vars)=true:=by kernel_rfl
theorem k6:((Rows.sweepOnRow.stops==[]))=true:=by kernel_rfl
theorem k7:((Tryz.pinned.checked.prog.stops==[]))=true:=by kernel_rfl
theorem k8:((Rows.sweepOnRow.knobs==[]))=true:=by kernel_rfl
theorem k9:((Tryz.pinned.checked.prog.stopKnobs==[]))=true:=by kernel_rfl
theorem k10:((Rows.sweepOnRow.inPlace==Tryz.pinned.checked.prog.inPlace 4))=true:=by kernel_rfl
theorem k11:((Rows.sweepOnRow.unfollowed==Tryz.pinned.checked.prog.unfollowed 4))=true:=by kernel_rfl
theorem k12:((Rows.sweepOnRow.recurses==Tryz.pinned.checked.prog.recurses 4))=true:=by kernel_rfl
theorem k13:((Rows.sweepOnRow.named==Tryz.pinned.checked.prog.varsNamed 4))=true:=by kernel_rfl
theorem k14:((Rows.sweepOnRow.maps==(Tryz.f4.params.toList++(OpenSpec.ofChange Rows.sweepOnSpec).bare.plain.varTypes Tryz.pinned.checked.prog).any (Tryz.pinned.checked.prog.mapsRec ·)))=true:=by kernel_rfl
theorem k15:((Rows.sweepOnRow.ifaces==(Tryz.f4.params.toList++(OpenSpec.ofChange Rows.sweepOnSpec).bare.plain.varTypes Tryz.pinned.checked.prog).any (Tryz.pinned.checked.prog.ifacesRec ·)))=true:=by kernel_rfl
theorem k16:((Rows.sweepOnRow.mapsOut==Tryz.pinned.checked.prog.mapsAmong Tryz.f4.resultTypes.toList))=true:=by kernel_rfl
theorem k17:((Rows.sweepOnRow.loops==(Tryz.f4.params.toList++(OpenSpec.ofChange Rows.sweepOnSpec).bare.plain.varTypes Tryz.pinned.checked.prog).any (Tryz.pinned.checked.prog.loopsFrom ·)))=true:=by kernel_rfl
theorem k18:((Rows.sweepOnRow.wideKeys==(Tryz.f4.params.toList++(OpenSpec.ofChange Rows.sweepOnSpec).bare.plain.varTypes Tryz.pinned.checked.prog++Tryz.f4.resultTypes.toList).any (Tryz.pinned.checked.prog.wideKeysFrom ·)))=true:=by kernel_rfl
theorem k19:((OpenSpec.ofChange Rows.sweepOnSpec).bare.vars.all (Tryz.pinned.checked.prog.varReadable ·))=true:=by kernel_rfl
theorem k20:(Tryz.f4.resultTypes.all (λt=>Tryz.pinned.checked.prog.readableRec t&&decide (t<Tryz.pinned.checked.prog.types.size)))=true:=by kernel_rfl
theorem k21:((Rows.sweepOnRow.ifacesOut==Tryz.f4.resultTypes.toList.any (Tryz.pinned.checked.prog.ifacesRec ·)))=true:=by kernel_rfl
theorem k22:((Rows.sweepOnRow.loopsOut==Tryz.f4.resultTypes.toList.any (Tryz.pinned.checked.prog.loopsFrom ·)))=true:=by kernel_rfl
theorem k23:((Rows.sweepOnRow.plainKeys==Tryz.pinned.checked.prog.plainKeys))=true:=by kernel_rfl
theorem k24:(Rows.sweepOnRow.shortTexts.isNone)=true:=by kernel_rfl
theorem k25:(Tryz.pinned.checked.prog.stopsHeard)=true:=by kernel_rfl
theorem k26:(Tryz.pinned.checked.prog.mayEnter)=true:=by kernel_rfl
theorem k27:((Rows.sweepOnRow.lifted==Tryz.pinned.checked.prog.liftsFinal))=true:=by kernel_rfl
theorem k28:((Tryz.pinned.checked.prog.make==some Rows.sweepOnRow.make))=true:=by kernel_rfl
theorem k29:((Rows.sweepOnRow.kinds==(if Rows.sweepOnRow.domain.isEmpty then[] else Tryz.f4.params.toList.map λt=>match Tryz.pinned.checked.prog.underlying t with | some (.int k)=>some k | _=>none)))=true:=by kernel_rfl
theorem k30:((Rows.sweepOnRow.pinned==Rows.sweepOnRow.pinnedBy))=true:=by kernel_rfl
theorem k31:((Rows.sweepOnRow.veiled==(Tryz.f4.params.toList++(OpenSpec.ofChange Rows.sweepOnSpec).bare.plain.varTypes Tryz.pinned.checked.prog++Tryz.f4.resultTypes.toList).any (Tryz.pinned.checked.prog.veiledRec ·)))=true:=by kernel_rfl
theorem k32:(Rows.sweepOnRow.veiledFits Tryz.pinned.checked.prog Tryz.f4.params.toList (Tryz.f4.params.toList++(OpenSpec.ofChange Rows.sweepOnSpec).bare.plain.varTypes Tryz.pinned.checked.prog++Tryz.f4.resultTypes.toList))=true:=by kernel_rfl
theorem closed:joinedFacts Tryz.pinned.checked.prog 4 Tryz.f4 (OpenSpec.ofChange Rows.sweepOnSpec).bare Rows.sweepOnRow=true:=Ge (Ge (Ge (Ge (Ge (Ge (Ge (Ge (Ge (Ge (Ge (Ge (Ge (Ge (Ge (Ge (Ge (Ge (Ge (Ge (Ge (Ge (Ge (Ge (Ge (Ge (Ge (Ge (Ge (Ge (Ge (k1) k2) k3) k4) k5) k6) k7) k8) k9) k10) k11) k12) k13) k14) k15) k16) k17) k18) k19) k20) k21) k22) k23) k24) k25) k26) k27) k28) k29) k30) k31) k32
theorem named:Tryz.pinned.checked.prog.funcNamed Rows.sweepOnRow.func=some 4:=by kernel_rfl
end Go.Proofs.YtopkfjiipdjbmaaGreatDoor.sweepOn
