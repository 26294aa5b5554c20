/- The facts of the row AsmKnown, one by one. -/
import Derived.Test.YtbkbdnlfkahaaaaGreatDoorS1Laid
import Derived.KernelRfl
set_option linter.unusedVariables false
set_option maxRecDepth 100000
namespace Go.Proofs.YtbkbdnlfkahaaaaGreatDoor.asmKnown
open Go.ChangeShapes Go.WideShapes Go.ChangeAt Go.RowKit
theorem WG {a b:Bool} (ha:a=true) (hb:b=true):(a&&b)=true:=by rw[ha,hb];rfl
theorem k1:(Rows.asmKnownRow.wf (OpenSpec.ofChange (OpenSpec.ofChange Rows.asmKnownSpec).bare))=true:=by kernel_rfl
theorem k2:(laidOutB Tryz.pinned.checked.prog)=true:=by kernel_rfl
theorem k3:(mapsRowed Tryz.pinned.checked.prog)=true:=by kernel_rfl
theorem k4:(Tryz.f4.params.all (Tryz.pinned.checked.prog.readableRec ·))=true:=by kernel_rfl
theorem k5:(namedTie Tryz.pinned.checked.prog Rows.asmKnownRow.named (OpenSpec.ofChange Rows.asmKnownSpec).bare.vars)=true:=by kernel_rfl
theorem k6:((Rows.asmKnownRow.stops==[]))=true:=by kernel_rfl
theorem k7:((Tryz.pinned.checked.prog.stops==[]))=true:=by kernel_rfl
theorem k8:((Rows.asmKnownRow.knobs==[]))=true:=by kernel_rfl
theorem k9:((Tryz.pinned.checked.prog.stopKnobs==[]))=true:=by kernel_rfl
theorem k10:((Rows.asmKnownRow.inPlace==Tryz.pinned.checked.prog.inPlace 4))=true:=by kernel_rfl
theorem k11:((Rows.asmKnownRow.unfollowed==Tryz.pinned.checked.prog.unfollowed 4))=true:=by kernel_rfl
theorem k12:((Rows.asmKnownRow.recurses==Tryz.pinned.checked.prog.recurses 4))=true:=by kernel_rfl
theorem k13:((Rows.asmKnownRow.named==Tryz.pinned.checked.prog.varsNamed 4))=true:=by kernel_rfl
theorem k14:((Rows.asmKnownRow.maps==(Tryz.f4.params.toList++(OpenSpec.ofChange Rows.asmKnownSpec).bare.plain.varTypes Tryz.pinned.checked.prog).any (Tryz.pinned.checked.prog.mapsRec ·)))=true:=by kernel_rfl
theorem k15:((Rows.asmKnownRow.ifaces==(Tryz.f4.params.toList++(OpenSpec.ofChange Rows.asmKnownSpec).bare.plain.varTypes Tryz.pinned.checked.prog).any (Tryz.pinned.checked.prog.ifacesRec ·)))=true:=by kernel_rfl
theorem k16:((Rows.asmKnownRow.mapsOut==Tryz.pinned.checked.prog.mapsAmong Tryz.f4.resultTypes.toList))=true:=by kernel_rfl
theorem k17:((Rows.asmKnownRow.loops==(Tryz.f4.params.toList++(OpenSpec.ofChange Rows.asmKnownSpec).bare.plain.varTypes Tryz.pinned.checked.prog).any (Tryz.pinned.checked.prog.loopsFrom ·)))=true:=by kernel_rfl
theorem k18:((Rows.asmKnownRow.wideKeys==(Tryz.f4.params.toList++(OpenSpec.ofChange Rows.asmKnownSpec).bare.plain.varTypes Tryz.pinned.checked.prog++Tryz.f4.resultTypes.toList).any (Tryz.pinned.checked.prog.wideKeysFrom ·)))=true:=by kernel_rfl
theorem k19:((OpenSpec.ofChange Rows.asmKnownSpec).bare.vars.all (Tryz.pinned.checked.prog.varReadable ·))=true:=by kernel_rfl
theorem k20:(Tryz.f4.resultTypes.all (λt=>Tryz.pinned.checked.prog.readableRec t&&decide (t<Tryz.pinned.checked.prog.types.size)))=true:=by kernel_rfl
theorem k21:((Rows.asmKnownRow.ifacesOut==Tryz.f4.resultTypes.toList.any (Tryz.pinned.checked.prog.ifacesRec ·)))=true:=by kernel_rfl
theorem k22:((Rows.asmKnownRow.loopsOut==Tryz.f4.resultTypes.toList.any (Tryz.pinned.checked.prog.loopsFrom ·)))=true:=by kernel_rfl
theorem k23:((Rows.asmKnownRow.plainKeys==Tryz.pinned.checked.prog.plainKeys))=true:=by kernel_rfl
theorem k24:(Rows.asmKnownRow.shortTexts.isNone)=true:=by kernel_rfl
theorem k25:(Tryz.pinned.checked.prog.stopsHeard)=true:=by kernel_rfl
theorem k26:(Tryz.pinned.checked.prog.mayEnter)=true:=by kernel_rfl
theorem k27:((Rows.asmKnownRow.lifted==Tryz.pinned.checked.prog.liftsFinal))=true:=by kernel_rfl
theorem k28:((Tryz.pinned.checked.prog.make==some Rows.asmKnownRow.make))=true:=by kernel_rfl
theorem k29:((Rows.asmKnownRow.kinds==(if Rows.asmKnownRow.domain.isEmpty then[] else Tryz.f4.params.toList.map λt=>match Tryz.pinned.checked.prog.underlying t with | some (.int k)=>some k | _=>none)))=true:=by kernel_rfl
theorem k30:((Rows.asmKnownRow.pinned==Rows.asmKnownRow.pinnedBy))=true:=by kernel_rfl
theorem k31:((Rows.asmKnownRow.veiled==(Tryz.f4.params.toList++(OpenSpec.ofChange Rows.asmKnownSpec).bare.plain.varTypes Tryz.pinned.checked.prog++Tryz.f4.resultTypes.toList).any (Tryz.pinned.checked.prog.veiledRec ·)))=true:=by kernel_rfl
theorem k32:(Rows.asmKnownRow.veiledFits Tryz.pinned.checked.prog Tryz.f4.params.toList (Tryz.f4.params.toList++(OpenSpec.ofChange Rows.asmKnownSpec).bare.plain.varTypes Tryz.pinned.checked.prog++Tryz.f4.resultTypes.toList))=true:=by kernel_rfl
theorem closed:joinedFacts Tryz.pinned.checked.prog 4 Tryz.f4 (OpenSpec.ofChange Rows.asmKnownSpec).bare Rows.asmKnownRow=true:=WG (WG (WG (WG (WG (WG (WG (WG (WG (WG (WG (WG (WG (WG (WG (WG (WG (WG (WG (WG (WG (WG (WG (WG (WG (WG (WG (WG (WG (WG (WG (k1) k2) k3) k4) k5) k6) k7) k8) k9) k10) k11) k12) k13) k14) k15) k16) k17) k18) k19) k20) k21) k22) k23) k24) k25) k26) k27) k28) k29) k30) k31) k32
theorem named:Tryz.pinned.checked.prog.funcNamed Rows.asmKnownRow.func=some 4:=by kernel_rfl
end Go.Proofs.YtbkbdnlfkahaaaaGreatDoor.asmKnown
