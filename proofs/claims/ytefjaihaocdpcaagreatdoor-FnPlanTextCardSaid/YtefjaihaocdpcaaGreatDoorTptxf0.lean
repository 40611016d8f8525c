/- Closed facts of the row of FnPlanText. -/
import Derived.Test.YtefjaihaocdpcaaGreatDoorCards
import Derived.JoinedOf
import Derived.SevenTiedAt
import Derived.KernelRfl
set_option linter.unusedVariables false
set_option maxRecDepth 100000
namespace Go.Proofs.YtefjaihaocdpcaaGreatDoor.fnPlanText
open Go
theorem fa1:(Rows.fnPlanTextRow.wf (OpenSpec.ofChange Rows.fnPlanTextSpec))=true:=by kernel_rfl
theorem fa2:(laidOutB Tryz.prog)=true:=by kernel_rfl
theorem fa3:(mapsRowed Tryz.prog)=true:=by kernel_rfl
theorem fa4:(Tryz.f14.params.all (Tryz.prog.readableRec ·))=true:=by kernel_rfl
theorem fa5:(namedTie Tryz.prog Rows.fnPlanTextRow.named Rows.fnPlanTextSpec.vars)=true:=by kernel_rfl
theorem fa6:((Rows.fnPlanTextRow.stops==[]))=true:=by kernel_rfl
theorem fa7:((Tryz.prog.stops==[]))=true:=by kernel_rfl
theorem fa8:((Rows.fnPlanTextRow.knobs==[]))=true:=by kernel_rfl
theorem fa9:((Tryz.prog.stopKnobs==[]))=true:=by kernel_rfl
theorem fa14:((Rows.fnPlanTextRow.maps==(Tryz.f14.params.toList++Rows.fnPlanTextSpec.plain.varTypes Tryz.prog).any (Tryz.prog.mapsRec ·)))=true:=by kernel_rfl
theorem fa15:((Rows.fnPlanTextRow.ifaces==(Tryz.f14.params.toList++Rows.fnPlanTextSpec.plain.varTypes Tryz.prog).any (Tryz.prog.ifacesRec ·)))=true:=by kernel_rfl
theorem fa16:((Rows.fnPlanTextRow.mapsOut==Tryz.prog.mapsAmong Tryz.f14.resultTypes.toList))=true:=by kernel_rfl
theorem fa17:((Rows.fnPlanTextRow.loops==(Tryz.f14.params.toList++Rows.fnPlanTextSpec.plain.varTypes Tryz.prog).any (Tryz.prog.loopsFrom ·)))=true:=by kernel_rfl
theorem fa18:((Rows.fnPlanTextRow.wideKeys==(Tryz.f14.params.toList++Rows.fnPlanTextSpec.plain.varTypes Tryz.prog++Tryz.f14.resultTypes.toList).any (Tryz.prog.wideKeysFrom ·)))=true:=by kernel_rfl
theorem fa19:(Rows.fnPlanTextSpec.vars.all (Tryz.prog.varReadable ·))=true:=by kernel_rfl
theorem fa20:(Tryz.f14.resultTypes.all (fun t=>Tryz.prog.readableRec t&&decide (t<Tryz.prog.types.size)))=true:=by kernel_rfl
theorem fa21:((Rows.fnPlanTextRow.ifacesOut==Tryz.f14.resultTypes.toList.any (Tryz.prog.ifacesRec ·)))=true:=by kernel_rfl
theorem fa22:((Rows.fnPlanTextRow.loopsOut==Tryz.f14.resultTypes.toList.any (Tryz.prog.loopsFrom ·)))=true:=by kernel_rfl
theorem fa23:((Rows.fnPlanTextRow.plainKeys==Tryz.prog.plainKeys))=true:=by kernel_rfl
theorem fa24:(Rows.fnPlanTextRow.shortTexts.isNone)=true:=by kernel_rfl
theorem fa25:(Tryz.prog.stopsHeard)=true:=by kernel_rfl
theorem fa26:(Tryz.prog.mayEnter)=true:=by kernel_rfl
theorem fa27:((Rows.fnPlanTextRow.lifted==Tryz.prog.liftsFinal))=true:=by kernel_rfl
theorem fa28:((Tryz.prog.make==some Rows.fnPlanTextRow.make))=true:=by kernel_rfl
theorem fa29:((Rows.fnPlanTextRow.kinds==(if Rows.fnPlanTextRow.domain.isEmpty then [] else Tryz.f14.params.toList.map fun t=>match Tryz.prog.underlying t with|some (.int k)=>some k|_=>none)))=true:=by kernel_rfl
theorem fa30:((Rows.fnPlanTextRow.pinned==Rows.fnPlanTextRow.pinnedBy))=true:=by kernel_rfl
theorem fa31:((Rows.fnPlanTextRow.veiled==(Tryz.f14.params.toList++Rows.fnPlanTextSpec.plain.varTypes Tryz.prog++Tryz.f14.resultTypes.toList).any (Tryz.prog.veiledRec ·)))=true:=by kernel_rfl
theorem fa32:(Rows.fnPlanTextRow.veiledFits Tryz.prog Tryz.f14.params.toList (Tryz.f14.params.toList++Rows.fnPlanTextSpec.plain.varTypes Tryz.prog++Tryz.f14.resultTypes.toList))=true:=by kernel_rfl
end Go.Proofs.YtefjaihaocdpcaaGreatDoor.fnPlanText
