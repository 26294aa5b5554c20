/- The facts of the row EncodeFree, one by one. -/
import Derived.Test.YtgepgbbjfhggfaaGreatDoorS1Laid
import Derived.KernelRfl
set_option linter.unusedVariables false
set_option maxRecDepth 100000
namespace Go.Proofs.YtgepgbbjfhggfaaGreatDoor.encodeFree
open Go.ChangeShapes Go.WideShapes Go.ChangeAt Go.RowKit
theorem J1 {a b:Bool} (ha:a=true) (hb:b=true):(a&&b)=true:=by rw[ha,hb];rfl
theorem k1:(Rows.encodeFreeRow.wf (OpenSpec.ofChange (OpenSpec.ofChange Rows.encodeFreeSpec).bare))=true:=by kernel_rfl
theorem k2:(laidOutB Tryz.pinned.checked.prog)=true:=by kernel_rfl
theorem k3:(mapsRowed Tryz.pinned.checked.prog)=true:=by kernel_rfl
theorem k4:(Tryz.f6.params.all (Tryz.pinned.checked.prog.readableRec ·))=true:=by kernel_rfl
theorem k5:(namedTie Tryz.pinned.checked.prog Rows.encodeFreeRow.named (OpenSpec.ofChange Rows.encodeFreeSpec).bare.vars)=true:=by kernel_rfl
theorem k6:((Rows.encodeFreeRow.stops==[]))=true:=by kernel_rfl
theorem k7:((Tryz.pinned.checked.prog.stops==[]))=true:=by kernel_rfl
theorem k8:((Rows.encodeFreeRow.knobs==[]))=true:=by kernel_rfl
theorem k9:((Tryz.pinned.checked.prog.stopKnobs==[]))=true:=by kernel_rfl
theorem k10:((Rows.encodeFreeRow.inPlace==Tryz.pinned.checked.prog.inPlace 6))=true:=by kernel_rfl
theorem k11:((Rows.encodeFreeRow.unfollowed==Tryz.pinned.checked.prog.unfollowed 6))=true:=by kernel_rfl
theorem k12:((Rows.encodeFreeRow.recurses==Tryz.pinned.checked.prog.recurses 6))=true:=by kernel_rfl
theorem k13:((Rows.encodeFreeRow.named==Tryz.pinned.checked.prog.varsNamed 6))=true:=by kernel_rfl
theorem k14:((Rows.encodeFreeRow.maps==(Tryz.f6.params.toList++(OpenSpec.ofChange Rows.encodeFreeSpec).bare.plain.varTypes Tryz.pinned.checked.prog).any (Tryz.pinned.checked.prog.mapsRec ·)))=true:=by kernel_rfl
theorem k15:((Rows.encodeFreeRow.ifaces==(Tryz.f6.params.toList++(OpenSpec.ofChange Rows.encodeFreeSpec).bare.plain.varTypes Tryz.pinned.checked.prog).any (Tryz.pinned.checked.prog.ifacesRec ·)))=true:=by kernel_rfl
theorem k16:((Rows.encodeFreeRow.mapsOut==Tryz.pinned.checked.prog.mapsAmong Tryz.f6.resultTypes.toList))=true:=by kernel_rfl
theorem k17:((Rows.encodeFreeRow.loops==(Tryz.f6.params.toList++(OpenSpec.ofChange Rows.encodeFreeSpec).bare.plain.varTypes Tryz.pinned.checked.prog).any (Tryz.pinned.checked.prog.loopsFrom ·)))=true:=by kernel_rfl
theorem k18:((Rows.encodeFreeRow.wideKeys==(Tryz.f6.params.toList++(OpenSpec.ofChange Rows.encodeFreeSpec).bare.plain.varTypes Tryz.pinned.checked.prog++Tryz.f6.resultTypes.toList).any (Tryz.pinned.checked.prog.wideKeysFrom ·)))=true:=by kernel_rfl
theorem k19:((OpenSpec.ofChange Rows.encodeFreeSpec).bare.vars.all (Tryz.pinned.checked.prog.varReadable ·))=true:=by kernel_rfl
theorem k20:(Tryz.f6.resultTypes.all (λt=>Tryz.pinned.checked.prog.readableRec t&&decide (t<Tryz.pinned.checked.prog.types.size)))=true:=by kernel_rfl
theorem k21:((Rows.encodeFreeRow.ifacesOut==Tryz.f6.resultTypes.toList.any (Tryz.pinned.checked.prog.ifacesRec ·)))=true:=by kernel_rfl
theorem k22:((Rows.encodeFreeRow.loopsOut==Tryz.f6.resultTypes.toList.any (Tryz.pinned.checked.prog.loopsFrom ·)))=true:=by kernel_rfl
theorem k23:((Rows.encodeFreeRow.plainKeys==Tryz.pinned.checked.prog.plainKeys))=true:=by kernel_rfl
theorem k24:(Rows.encodeFreeRow.shortTexts.isNone)=true:=by kernel_rfl
theorem k25:(Tryz.pinned.checked.prog.stopsHeard)=true:=by kernel_rfl
theorem k26:(Tryz.pinned.checked.prog.mayEnter)=true:=by kernel_rfl
theorem k27:((Rows.encodeFreeRow.lifted==Tryz.pinned.checked.prog.liftsFinal))=true:=by kernel_rfl
theorem k28:((Tryz.pinned.checked.prog.make==some Rows.encodeFreeRow.make))=true:=by kernel_rfl
theorem k29:((Rows.encodeFreeRow.kinds==(if Rows.encodeFreeRow.domain.isEmpty then[] else Tryz.f6.params.toList.map λt=>match Tryz.pinned.checked.prog.underlying t with | some (.int k)=>some k | _=>none)))=true:=by kernel_rfl
theorem k30:((Rows.encodeFreeRow.pinned==Rows.encodeFreeRow.pinnedBy))=true:=by kernel_rfl
theorem k31:((Rows.encodeFreeRow.veiled==(Tryz.f6.params.toList++(OpenSpec.ofChange Rows.encodeFreeSpec).bare.plain.varTypes Tryz.pinned.checked.prog++Tryz.f6.resultTypes.toList).any (Tryz.pinned.checked.prog.veiledRec ·)))=true:=by kernel_rfl
theorem k32:(Rows.encodeFreeRow.veiledFits Tryz.pinned.checked.prog Tryz.f6.params.toList (Tryz.f6.params.toList++(OpenSpec.ofChange Rows.encodeFreeSpec).bare.plain.varTypes Tryz.pinned.checked.prog++Tryz.f6.resultTypes.toList))=true:=by kernel_rfl
theorem closed:joinedFacts Tryz.pinned.checked.prog 6 Tryz.f6 (OpenSpec.ofChange Rows.encodeFreeSpec).bare Rows.encodeFreeRow=true:=J1 (J1 (J1 (J1 (J1 (J1 (J1 (J1 (J1 (J1 (J1 (J1 (J1 (J1 (J1 (J1 (J1 (J1 (J1 (J1 (J1 (J1 (J1 (J1 (J1 (J1 (J1 (J1 (J1 (J1 (J1 (k1) k2) k3) k4) k5) k6) k7) k8) k9) k10) k11) k12) k13) k14) k15) k16) k17) k18) k19) k20) k21) k22) k23) k24) k25) k26) k27) k28) k29) k30) k31) k32
theorem named:Tryz.pinned.checked.prog.funcNamed Rows.encodeFreeRow.func=some 6:=by kernel_rfl
end Go.Proofs.YtgepgbbjfhggfaaGreatDoor.encodeFree
