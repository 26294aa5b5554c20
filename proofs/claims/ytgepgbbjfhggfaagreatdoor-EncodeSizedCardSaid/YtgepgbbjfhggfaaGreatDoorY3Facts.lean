/- The facts of the row EncodeSized, one by one. -/
import Derived.Test.YtgepgbbjfhggfaaGreatDoorS1Laid
import Derived.KernelRfl
set_option linter.unusedVariables false
set_option maxRecDepth 100000
namespace Go.Proofs.YtgepgbbjfhggfaaGreatDoor.encodeSized
open Go.ChangeShapes Go.WideShapes Go.ChangeAt Go.RowKit
theorem V0 {a b:Bool}(q:a=true)(hb:b=true):(a&&b)=true:=by rw[q,hb];rfl
theorem k1:(Rows.encodeSizedRow.wf (OpenSpec.ofChange (OpenSpec.ofChange Rows.encodeSizedSpec).bare))=true:=by kernel_rfl
theorem k2:(laidOutB Tryz.pinned.checked.prog)=true:=by kernel_rfl
theorem k3:(mapsRowed Tryz.pinned.checked.prog)=true:=by kernel_rfl
theorem k4:(Tryz.f5.params.all (Tryz.pinned.checked.prog.readableRec ·))=true:=by kernel_rfl
theorem k5:(namedTie Tryz.pinned.checked.prog Rows.encodeSizedRow.named (OpenSpec.ofChange Rows.encodeSizedSpec).bare.vars)=true:=by kernel_rfl
theorem k6:((Rows.encodeSizedRow.stops==[]))=true:=by kernel_rfl
theorem k7:((Tryz.pinned.checked.prog.stops==[]))=true:=by kernel_rfl
theorem k8:((Rows.encodeSizedRow.knobs==[]))=true:=by kernel_rfl
theorem k9:((Tryz.pinned.checked.prog.stopKnobs==[]))=true:=by kernel_rfl
theorem k10:((Rows.encodeSizedRow.inPlace==Tryz.pinned.checked.prog.inPlace 5))=true:=by kernel_rfl
theorem k11:((Rows.encodeSizedRow.unfollowed==Tryz.pinned.checked.prog.unfollowed 5))=true:=by kernel_rfl
theorem k12:((Rows.encodeSizedRow.recurses==Tryz.pinned.checked.prog.recurses 5))=true:=by kernel_rfl
theorem k13:((Rows.encodeSizedRow.named==Tryz.pinned.checked.prog.varsNamed 5))=true:=by kernel_rfl
theorem k14:((Rows.encodeSizedRow.maps==(Tryz.f5.params.toList++(OpenSpec.ofChange Rows.encodeSizedSpec).bare.plain.varTypes Tryz.pinned.checked.prog).any (Tryz.pinned.checked.prog.mapsRec ·)))=true:=by kernel_rfl
theorem k15:((Rows.encodeSizedRow.ifaces==(Tryz.f5.params.toList++(OpenSpec.ofChange Rows.encodeSizedSpec).bare.plain.varTypes Tryz.pinned.checked.prog).any (Tryz.pinned.checked.prog.ifacesRec ·)))=true:=by kernel_rfl
theorem k16:((Rows.encodeSizedRow.mapsOut==Tryz.pinned.checked.prog.mapsAmong Tryz.f5.resultTypes.toList))=true:=by kernel_rfl
theorem k17:((Rows.encodeSizedRow.loops==(Tryz.f5.params.toList++(OpenSpec.ofChange Rows.encodeSizedSpec).bare.plain.varTypes Tryz.pinned.checked.prog).any (Tryz.pinned.checked.prog.loopsFrom ·)))=true:=by kernel_rfl
theorem k18:((Rows.encodeSizedRow.wideKeys==(Tryz.f5.params.toList++(OpenSpec.ofChange Rows.encodeSizedSpec).bare.plain.varTypes Tryz.pinned.checked.prog++Tryz.f5.resultTypes.toList).any (Tryz.pinned.checked.prog.wideKeysFrom ·)))=true:=by kernel_rfl
theorem k19:((OpenSpec.ofChange Rows.encodeSizedSpec).bare.vars.all (Tryz.pinned.checked.prog.varReadable ·))=true:=by kernel_rfl
theorem k20:(Tryz.f5.resultTypes.all (λt=>Tryz.pinned.checked.prog.readableRec t&&decide (t<Tryz.pinned.checked.prog.types.size)))=true:=by kernel_rfl
theorem k21:((Rows.encodeSizedRow.ifacesOut==Tryz.f5.resultTypes.toList.any (Tryz.pinned.checked.prog.ifacesRec ·)))=true:=by kernel_rfl
theorem k22:((Rows.encodeSizedRow.loopsOut==Tryz.f5.resultTypes.toList.any (Tryz.pinned.checked.prog.loopsFrom ·)))=true:=by kernel_rfl
theorem k23:((Rows.encodeSizedRow.plainKeys==Tryz.pinned.checked.prog.plainKeys))=true:=by kernel_rfl
theorem k24:(Rows.encodeSizedRow.shortTexts.isNone)=true:=by kernel_rfl
theorem k25:(Tryz.pinned.checked.prog.stopsHeard)=true:=by kernel_rfl
theorem k26:(Tryz.pinned.checked.prog.mayEnter)=true:=by kernel_rfl
theorem k27:((Rows.encodeSizedRow.lifted==Tryz.pinned.checked.prog.liftsFinal))=true:=by kernel_rfl
theorem k28:((Tryz.pinned.checked.prog.make==some Rows.encodeSizedRow.make))=true:=by kernel_rfl
theorem k29:((Rows.encodeSizedRow.kinds==(if Rows.encodeSizedRow.domain.isEmpty then[] else Tryz.f5.params.toList.map λt=>match Tryz.pinned.checked.prog.underlying t with | some (.int k)=>some k | _=>none)))=true:=by kernel_rfl
theorem k30:((Rows.encodeSizedRow.pinned==Rows.encodeSizedRow.pinnedBy))=true:=by kernel_rfl
theorem k31:((Rows.encodeSizedRow.veiled==(Tryz.f5.params.toList++(OpenSpec.ofChange Rows.encodeSizedSpec).bare.plain.varTypes Tryz.pinned.checked.prog++Tryz.f5.resultTypes.toList).any (Tryz.pinned.checked.prog.veiledRec ·)))=true:=by kernel_rfl
theorem k32:(Rows.encodeSizedRow.veiledFits Tryz.pinned.checked.prog Tryz.f5.params.toList (Tryz.f5.params.toList++(OpenSpec.ofChange Rows.encodeSizedSpec).bare.plain.varTypes Tryz.pinned.checked.prog++Tryz.f5.resultTypes.toList))=true:=by kernel_rfl
theorem closed:joinedFacts Tryz.pinned.checked.prog 5 Tryz.f5 (OpenSpec.ofChange Rows.encodeSizedSpec).bare Rows.encodeSizedRow=true:=V0 (V0 (V0 (V0 (V0 (V0 (V0 (V0 (V0 (V0 (V0 (V0 (V0 (V0 (V0 (V0 (V0 (V0 (V0 (V0 (V0 (V0 (V0 (V0 (V0 (V0 (V0 (V0 (V0 (V0 (V0 (k1) k2) k3) k4) k5) k6) k7) k8) k9) k10) k11) k12) k13) k14) k15) k16) k17) k18) k19) k20) k21) k22) k23) k24) k25) k26) k27) k28) k29) k30) k31) k32
theorem named:Tryz.pinned.checked.prog.funcNamed Rows.encodeSizedRow.func=some 5:=by kernel_rfl
end Go.Proofs.YtgepgbbjfhggfaaGreatDoor.encodeSized
